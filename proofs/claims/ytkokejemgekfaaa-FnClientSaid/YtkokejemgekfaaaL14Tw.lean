/- What the functions come to, as plain Lean. Printed by tw.py. -/
import Derived.Test.YtkokejemgekfaaaDm8
set_option linter.unusedVariables false
namespace Go.Den.L14
open Go
noncomputable section
/-- The rounds that a loop is given: 2 ^ 64; so laid that nothing unfolds it. -/
noncomputable def KK : Nat := Classical.choose (⟨2 ^ 64, rfl⟩ : ∃ n : Nat, n = 2 ^ 64)
def w64 (x : Int) : Int := IntKind.wrap .i64 x
noncomputable def chk (b : Bool) (x : Rs) : Rs := if b then x else none
def bitAnd (k : IntKind) (a b : Int) : Int := k.wrap (BitVec.ofInt k.bits a &&& BitVec.ofInt k.bits b).toNat
def bitOr (k : IntKind) (a b : Int) : Int := k.wrap (BitVec.ofInt k.bits a ||| BitVec.ofInt k.bits b).toNat
def bitXor (k : IntKind) (a b : Int) : Int := k.wrap (BitVec.ofInt k.bits a ^^^ BitVec.ofInt k.bits b).toNat
def stR (xs : List (List D)) (i off : Nat) (ys : List D) : List (List D) := xs.modify i fun r => r.take off ++ ys ++ r.drop (off + ys.length)
def z3 : List D := [.i .i64 0]
def z5 : List D := [.i .u8 0]
def z9 : List D := [.s ⟨#[]⟩]
def z165 : List D := [.i .i64 0, .i .i64 0, .i .i64 0, .i .i64 0, .i .i64 0, .s ⟨#[]⟩, .l [], .i .i64 0, .i .i64 0]
def z168 : List D := [.s ⟨#[]⟩, .i .i64 0]
def bz1 : ByteArray := ⟨#[47, 97, 47, 98, 47, 99, 47, 100, 47, 97, 47, 98, 47, 99, 47, 100, 47, 97, 47, 98, 47, 99, 47, 100, 47, 97, 47, 98, 47, 99, 47, 100, 47, 97, 47, 98, 47, 99, 47, 100, 47, 97, 47, 98, 47, 99, 47, 100, 47, 97, 47, 98, 47, 99, 47, 100, 47, 97, 47, 98]⟩
def bz2 : ByteArray := ⟨#[47, 97, 47, 98, 47, 99, 47, 100, 47, 97, 47, 98, 47, 99, 47, 100, 47, 97, 47, 98, 47, 99, 47, 100, 47, 97, 47, 98, 47, 99, 47, 100, 47, 97, 47, 98, 47, 99, 47, 100, 47, 97, 47, 98, 47, 99, 47, 100, 47, 97, 47, 98, 47, 99, 47, 100, 47, 97, 47]⟩
abbrev Rw := List (List D)
abbrev Y58 := Rw → Rs
def t58 (l1 : Rw) : Rs :=
  some ([.one (.b (decide ((l1.length : Int) > (1048576 : Int))))], [])
def zr58 : List DV := [.one (.b false)]
def zo58 : Rw := []
def A58 : List TA := [.one (.l)]
abbrev Y102 := Rw → Rs
def l102o0 (l1 : Rw) (q1 : Int → Int → Bool → Rs) : Nat → Int → Int → SV → Rs
  | 0, _, _, _ => none
  | m + 1, n1, n2, v1 =>
    let y1 := (decide (n2 < (l1.length : Int))) && (decide (n2 < (4000 : Int)))
    if y1 then
     let y2 := l1.getD n2.toNat []
     chk (decide (0 ≤ n2) && decide (n2 < l1.length) && isRow z5 y2) <|
     l102o0 l1 q1 m (bitAnd .i64 (w64 ((w64 ((w64 (n1 * (131 : Int))) + (w64 (asI (nthD y2 0))))) + (7 : Int))) (1073741823 : Int)) (w64 (n2 + (1 : Int))) (.d (.b y1))
    else
     q1 n1 n2 y1
def t102 (l1 : Rw) : Rs :=
  l102o0 l1
   (fun (n1 n2 : Int) (b1 : Bool) =>
    some ([.ptr [.l l1, .i .i64 (0 : Int), .i .i64 n1]], [])) KK (w64 ((10101 : Int) + (l1.length : Int))) (0 : Int) SV.undef
def zr102 : List DV := [.ptr [.l [], .i .i64 0, .i .i64 0]]
def zo102 : Rw := []
def A102 : List TA := [.one (.l)]
abbrev Y124 := Rw → Int → Int → Rs
def t124 (l1 : Rw) (n1 n2 : Int) : Rs :=
  let k1 := fun (n3 n4 : Int) =>
   let y1 := w64 ((w64 (n2 * (6364136223846793005 : Int))) + (1442695040888963407 : Int))
   some ([.one (.i .i64 n3)], [[.l l1, .i .i64 n4, .i .i64 y1]])
  if decide (n1 < (l1.length : Int)) then
   let y2 := l1.getD n1.toNat []
   chk (decide (0 ≤ n1) && decide (n1 < l1.length) && isRow z5 y2) <|
   let y3 := w64 ((w64 (n2 * (6364136223846793005 : Int))) + (1442695040888963407 : Int))
   let y4 := bitAnd .i64 (bitXor .i64 (y3.fdiv (2 ^ (min (33 : Int).toNat (IntKind.bits .i64)))) (y3.fdiv (2 ^ (min (45 : Int).toNat (IntKind.bits .i64))))) (255 : Int)
   k1 (bitAnd .i64 (w64 (y4 + (w64 (asI (nthD y2 0))))) (255 : Int)) (w64 (n1 + (1 : Int)))
  else
   let y5 := w64 ((w64 (n2 * (6364136223846793005 : Int))) + (1442695040888963407 : Int))
   let y6 := bitAnd .i64 (bitXor .i64 (y5.fdiv (2 ^ (min (33 : Int).toNat (IntKind.bits .i64)))) (y5.fdiv (2 ^ (min (45 : Int).toNat (IntKind.bits .i64))))) (255 : Int)
   k1 y6 n1
def zr124 : List DV := [.one (.i .i64 0)]
def zo124 : Rw := [[.l [], .i .i64 0, .i .i64 0]]
def A124 : List TA := [.ptr [.l, .i .i64, .i .i64]]
abbrev Y105 := Rw → Int → Int → Int → Rs
def ta105 (t124 : Y124) (l1 : Rw) (n1 n2 n3 : Int) : Rs :=
  if decide (n3 ≤ (0 : Int)) then
   some ([.one (.i .i64 (0 : Int))], [[.l l1, .i .i64 n1, .i .i64 n2]])
  else
   if decide (n3 ≤ (256 : Int)) then
    let y1 := t124 l1 n1 n2
    chk (okR zr124 zo124 y1) <|
    chk (n3 != 0) <|
    some ([.one (.i .i64 ((asI (resC y1 0 0)).tmod n3))], [[.l l1, .i .i64 (asI (outC y1 0 1)), .i .i64 (asI (outC y1 0 2))]])
   else
    let y2 := t124 l1 n1 n2
    chk (okR zr124 zo124 y2) <|
    let y3 := t124 l1 (asI (outC y2 0 1)) (asI (outC y2 0 2))
    chk (okR zr124 zo124 y3) <|
    let y4 := t124 l1 (asI (outC y3 0 1)) (asI (outC y3 0 2))
    chk (okR zr124 zo124 y4) <|
    let y5 := t124 l1 (asI (outC y4 0 1)) (asI (outC y4 0 2))
    chk (okR zr124 zo124 y5) <|
    chk (n3 != 0) <|
    some ([.one (.i .i64 ((w64 ((w64 ((w64 ((w64 ((asI (resC y2 0 0)) * (16777216 : Int))) + (w64 ((asI (resC y3 0 0)) * (65536 : Int))))) + (w64 ((asI (resC y4 0 0)) * (256 : Int))))) + (asI (resC y5 0 0)))).tmod n3))], [[.l l1, .i .i64 (asI (outC y5 0 1)), .i .i64 (asI (outC y5 0 2))]])
def t105 : Y105 := ta105 t124
def zr105 : List DV := [.one (.i .i64 0)]
def zo105 : Rw := [[.l [], .i .i64 0, .i .i64 0]]
def A105 : List TA := [.ptr [.l, .i .i64, .i .i64], .one (.i .i64)]
abbrev Y108 := Rw → Int → Int → Int → Rs
def ta108 (t105 : Y105) (l1 : Rw) (n1 n2 n3 : Int) : Rs :=
  let y1 := t105 l1 n1 n2 n3
  chk (okR zr105 zo105 y1) <|
  some ([.one (.b ((asI (resC y1 0 0)) == (0 : Int)))], [[.l l1, .i .i64 (asI (outC y1 0 1)), .i .i64 (asI (outC y1 0 2))]])
def t108 : Y108 := ta108 t105
def zr108 : List DV := [.one (.b false)]
def zo108 : Rw := [[.l [], .i .i64 0, .i .i64 0]]
def A108 : List TA := [.ptr [.l, .i .i64, .i .i64], .one (.i .i64)]
abbrev Y122 := Rw → Int → Int → Rw → Rs
def ta122 (t105 : Y105) (l1 : Rw) (n1 n2 : Int) (l2 : Rw) : Rs :=
  let y1 := t105 l1 n1 n2 (l2.length : Int)
  chk (okR zr105 zo105 y1) <|
  let y2 := asI (resC y1 0 0)
  let y3 := l2.getD y2.toNat []
  chk (decide (0 ≤ y2) && decide (y2 < l2.length) && isRow z3 y3) <|
  some ([.one (.i .i64 (asI (nthD y3 0)))], [[.l l1, .i .i64 (asI (outC y1 0 1)), .i .i64 (asI (outC y1 0 2))]])
def t122 : Y122 := ta122 t105
def zr122 : List DV := [.one (.i .i64 0)]
def zo122 : Rw := [[.l [], .i .i64 0, .i .i64 0]]
def A122 : List TA := [.ptr [.l, .i .i64, .i .i64], .one (.l)]
abbrev Y103 := Rw → Int → Int → Rs
def ta103 (t105 : Y105) (t108 : Y108) (t122 : Y122) (l1 : Rw) (n1 n2 : Int) : Rs :=
  let y1 := t108 l1 n1 n2 (15 : Int)
  chk (okR zr108 zo108 y1) <|
  if asB (resC y1 0 0) then
   let y2 := asI (outC y1 0 1)
   let y3 := asI (outC y1 0 2)
   let y4 := t122 l1 y2 y3 ([[.i .i64 (-1 : Int)], [.i .i64 (0 : Int)], [.i .i64 (1000000 : Int)], [.i .i64 (1000001 : Int)]] : Rw)
   chk (okR zr122 zo122 y4) <|
   some ([.one (.i .i64 (asI (resC y4 0 0)))], [[.l l1, .i .i64 (asI (outC y4 0 1)), .i .i64 (asI (outC y4 0 2))]])
  else
   let y5 := asI (outC y1 0 1)
   let y6 := asI (outC y1 0 2)
   let y7 := t105 l1 y5 y6 (90 : Int)
   chk (okR zr105 zo105 y7) <|
   some ([.one (.i .i64 (asI (resC y7 0 0)))], [[.l l1, .i .i64 (asI (outC y7 0 1)), .i .i64 (asI (outC y7 0 2))]])
def t103 : Y103 := ta103 t105 t108 t122
def zr103 : List DV := [.one (.i .i64 0)]
def zo103 : Rw := [[.l [], .i .i64 0, .i .i64 0]]
def A103 : List TA := [.ptr [.l, .i .i64, .i .i64]]
abbrev Y127 := Rs
def t127 : Rs :=
  some ([.agg [.i .i64 (2 : Int), .l ([[.i .i64 (1 : Int), .i .i64 (2 : Int), .i .i64 (493 : Int), .i .i64 (0 : Int), .i .i64 (0 : Int), .s (⟨#[]⟩ : ByteArray), .l ([] : Rw), .i .i64 (0 : Int), .i .i64 (0 : Int)]] : Rw)]], [])
def zr127 : List DV := [.agg [.i .i64 0, .l []]]
def zo127 : Rw := []
def A127 : List TA := []
abbrev Y129 := Rw → Int → Int → Rw → Rs
def ta129 (t105 : Y105) (l1 : Rw) (n1 n2 : Int) (l2 : Rw) : Rs :=
  let y1 := t105 l1 n1 n2 (l2.length : Int)
  chk (okR zr105 zo105 y1) <|
  let y2 := asI (resC y1 0 0)
  let y3 := l2.getD y2.toNat []
  chk (decide (0 ≤ y2) && decide (y2 < l2.length) && isRow z9 y3) <|
  some ([.one (.s (asS (nthD y3 0)))], [[.l l1, .i .i64 (asI (outC y1 0 1)), .i .i64 (asI (outC y1 0 2))]])
def t129 : Y129 := ta129 t105
def zr129 : List DV := [.one (.s ⟨#[]⟩)]
def zo129 : Rw := [[.l [], .i .i64 0, .i .i64 0]]
def A129 : List TA := [.ptr [.l, .i .i64, .i .i64], .one (.l)]
abbrev Y132 := Rw → Int → Int → Rs
def ta132 (t129 : Y129) (l1 : Rw) (n1 n2 : Int) : Rs :=
  let y1 := t129 l1 n1 n2 ([[.s (⟨#[97]⟩ : ByteArray)], [.s (⟨#[98]⟩ : ByteArray)], [.s (⟨#[99]⟩ : ByteArray)], [.s (⟨#[100, 49]⟩ : ByteArray)], [.s (⟨#[115, 117, 98]⟩ : ByteArray)]] : Rw)
  chk (okR zr129 zo129 y1) <|
  some ([.one (.s (asS (resC y1 0 0)))], [[.l l1, .i .i64 (asI (outC y1 0 1)), .i .i64 (asI (outC y1 0 2))]])
def t132 : Y132 := ta132 t129
def zr132 : List DV := [.one (.s ⟨#[]⟩)]
def zo132 : Rw := [[.l [], .i .i64 0, .i .i64 0]]
def A132 : List TA := [.ptr [.l, .i .i64, .i .i64]]
abbrev Y130 := Rw → Int → Int → Rs
def la130o0 (t105 : Y105) (t108 : Y108) (t129 : Y129) (t132 : Y132) (s1 : ByteArray) (l1 : Rw) (q1 : ByteArray → Int → Bool → SV → SV → SV → SV → SV → Int → Int → Rs) : Nat → ByteArray → Int → SV → SV → SV → SV → SV → SV → Int → Int → Rs
  | 0, _, _, _, _, _, _, _, _, _, _ => none
  | m + 1, s2, n1, v1, v2, v3, v4, v5, v6, n2, n3 =>
    let y1 := decide (n1 > (0 : Int))
    if y1 then
     chk (decide (s2.size + (⟨#[47]⟩ : ByteArray).size ≤ lim)) <|
     let y2 := t132 l1 n2 n3
     chk (okR zr132 zo132 y2) <|
     let y3 := s2 ++ (⟨#[47]⟩ : ByteArray)
     let y4 := asS (resC y2 0 0)
     chk (decide (y3.size + y4.size ≤ lim)) <|
     let y5 := t105 l1 (asI (outC y2 0 1)) (asI (outC y2 0 2)) (14 : Int)
     chk (okR zr105 zo105 y5) <|
     let y6 := asI (resC y5 0 0)
     let y7 := y6 == (0 : Int)
     if y7 then
      let y8 := y3 ++ y4
      chk (decide (y8.size + (⟨#[47, 46]⟩ : ByteArray).size ≤ lim)) <|
      let y9 := asI (outC y5 0 1)
      let y10 := asI (outC y5 0 2)
      la130o0 t105 t108 t129 t132 s1 l1 q1 m (y8 ++ (⟨#[47, 46]⟩ : ByteArray)) (w64 (n1 - (1 : Int))) (.d (.b y1)) (.d (.i .i64 y6)) (.d (.b y7)) (keepV [0] v4) (keepV [0] v5) (keepV [0] v6) y9 y10
     else
      let y11 := y6 == (1 : Int)
      if y11 then
       let y12 := y3 ++ y4
       chk (decide (y12.size + (⟨#[47, 46, 46]⟩ : ByteArray).size ≤ lim)) <|
       let y13 := asI (outC y5 0 1)
       let y14 := asI (outC y5 0 2)
       la130o0 t105 t108 t129 t132 s1 l1 q1 m (y12 ++ (⟨#[47, 46, 46]⟩ : ByteArray)) (w64 (n1 - (1 : Int))) (.d (.b y1)) (.d (.i .i64 y6)) (.d (.b y7)) (.d (.b y11)) (keepV [0] v5) (keepV [0] v6) y13 y14
      else
       let y15 := y6 == (2 : Int)
       if y15 then
        let y16 := y3 ++ y4
        chk (decide (y16.size + (⟨#[47]⟩ : ByteArray).size ≤ lim)) <|
        let y17 := asI (outC y5 0 1)
        let y18 := asI (outC y5 0 2)
        la130o0 t105 t108 t129 t132 s1 l1 q1 m (y16 ++ (⟨#[47]⟩ : ByteArray)) (w64 (n1 - (1 : Int))) (.d (.b y1)) (.d (.i .i64 y6)) (.d (.b y7)) (.d (.b y11)) (.d (.b y15)) (keepV [0] v6) y17 y18
       else
        let k1 := fun (s3 : ByteArray) (n4 n5 : Int) =>
         let y19 := y6 == (3 : Int)
         la130o0 t105 t108 t129 t132 s1 l1 q1 m s3 (w64 (n1 - (1 : Int))) (.d (.b y1)) (.d (.i .i64 y6)) (.d (.b y7)) (.d (.b y11)) (.d (.b y15)) (.d (.b y19)) n4 n5
        let y20 := y6 == (3 : Int)
        if y20 then
         let y21 := asI (outC y5 0 1)
         let y22 := asI (outC y5 0 2)
         let y23 := t129 l1 y21 y22 ([[.s (⟨#[108, 111, 110, 103, 110, 97, 109, 101, 57]⟩ : ByteArray)], [.s (⟨#[65, 66, 67]⟩ : ByteArray)], [.s (⟨#[120, 32, 121]⟩ : ByteArray)], [.s (⟨#[46, 104, 105, 100]⟩ : ByteArray)], [.s (⟨#[46, 46, 46]⟩ : ByteArray)]] : Rw)
         chk (okR zr129 zo129 y23) <|
         let y24 := y3 ++ y4
         let y25 := asS (resC y23 0 0)
         chk (decide (y24.size + y25.size ≤ lim)) <|
         k1 (y24 ++ y25) (asI (outC y23 0 1)) (asI (outC y23 0 2))
        else
         let y26 := y3 ++ y4
         let y27 := asI (outC y5 0 1)
         let y28 := asI (outC y5 0 2)
         k1 y26 y27 y28
    else
     q1 s2 n1 y1 (keepV [0] v2) (keepV [0] v3) (keepV [0] v4) (keepV [0] v5) (keepV [0] v6) n2 n3
def ta130 (t105 : Y105) (t108 : Y108) (t129 : Y129) (t132 : Y132) (l1 : Rw) (n1 n2 : Int) : Rs :=
  let y1 := t105 l1 n1 n2 (5 : Int)
  chk (okR zr105 zo105 y1) <|
  la130o0 t105 t108 t129 t132 (⟨#[]⟩ : ByteArray) l1
   (fun (s1 : ByteArray) (n3 : Int) (b1 : Bool) (v1 v2 v3 v4 v5 : SV) (n4 n5 : Int) =>
    let y2 := s1.toList == (⟨#[]⟩ : ByteArray).toList
    if !y2 then
     let y3 := t108 l1 n4 n5 (20 : Int)
     chk (okR zr108 zo108 y3) <|
     let k2 := fun (s2 : ByteArray) =>
      let y4 := t108 l1 (asI (outC y3 0 1)) (asI (outC y3 0 2)) (30 : Int)
      chk (okR zr108 zo108 y4) <|
      if asB (resC y4 0 0) then
       let y5 := asI (outC y4 0 1)
       let y6 := asI (outC y4 0 2)
       let y7 := t129 l1 y5 y6 ([[.s (⟨#[]⟩ : ByteArray)], [.s (⟨#[97]⟩ : ByteArray)], [.s bz1], [.s bz2]] : Rw)
       chk (okR zr129 zo129 y7) <|
       some ([.one (.s (asS (resC y7 0 0)))], [[.l l1, .i .i64 (asI (outC y7 0 1)), .i .i64 (asI (outC y7 0 2))]])
      else
       let y8 := asI (outC y4 0 1)
       let y9 := asI (outC y4 0 2)
       some ([.one (.s s2)], [[.l l1, .i .i64 y8, .i .i64 y9]])
     if y2 || (asB (resC y3 0 0)) then
      chk (decide (s1.size + (⟨#[47]⟩ : ByteArray).size ≤ lim)) <|
      k2 (s1 ++ (⟨#[47]⟩ : ByteArray))
     else
      k2 s1
    else
     chk (y2) <|
     chk (decide (s1.size + (⟨#[47]⟩ : ByteArray).size ≤ lim)) <|
     let y10 := t108 l1 n4 n5 (30 : Int)
     chk (okR zr108 zo108 y10) <|
     if asB (resC y10 0 0) then
      let y11 := asI (outC y10 0 1)
      let y12 := asI (outC y10 0 2)
      let y13 := t129 l1 y11 y12 ([[.s (⟨#[]⟩ : ByteArray)], [.s (⟨#[97]⟩ : ByteArray)], [.s bz1], [.s bz2]] : Rw)
      chk (okR zr129 zo129 y13) <|
      some ([.one (.s (asS (resC y13 0 0)))], [[.l l1, .i .i64 (asI (outC y13 0 1)), .i .i64 (asI (outC y13 0 2))]])
     else
      let y14 := asI (outC y10 0 1)
      let y15 := asI (outC y10 0 2)
      some ([.one (.s (s1 ++ (⟨#[47]⟩ : ByteArray)))], [[.l l1, .i .i64 y14, .i .i64 y15]])) KK (⟨#[]⟩ : ByteArray) (asI (resC y1 0 0)) SV.undef SV.undef SV.undef SV.undef SV.undef SV.undef (asI (outC y1 0 1)) (asI (outC y1 0 2))
def t130 : Y130 := ta130 t105 t108 t129 t132
def zr130 : List DV := [.one (.s ⟨#[]⟩)]
def zo130 : Rw := [[.l [], .i .i64 0, .i .i64 0]]
def A130 : List TA := [.ptr [.l, .i .i64, .i .i64]]
abbrev Y131 := Int → Rw → Int → Rs
def l131o0 (n1 : Int) (l1 : Rw) (n2 n3 n4 : Int) (l2 : Rw) (q1 : Int → Bool → Bool → Rs) (q2 : Int → Bool → SV → Rs) : Nat → Int → SV → SV → Rs
  | 0, _, _, _ => none
  | m + 1, n5, v1, v2 =>
    let y1 := decide (n5 < (l2.length : Int))
    if y1 then
     let y2 := l2.getD n5.toNat []
     chk (decide (0 ≤ n5) && decide (n5 < l2.length) && isRow z165 y2) <|
     let y3 := (asI (nthD y2 0)) == n2
     if y3 then
      q1 n5 y1 y3
     else
      l131o0 n1 l1 n2 n3 n4 l2 q1 q2 m (w64 (n5 + (1 : Int))) (.d (.b y1)) (.d (.b y3))
    else
     q2 n5 y1 (keepV [128] v2)
def t131 (n1 : Int) (l1 : Rw) (n2 : Int) : Rs :=
  l131o0 n1 l1 n2 (0 : Int) n1 l1
   (fun (n3 : Int) (b1 b2 : Bool) =>
    some ([.one (.i .i64 n3)], []))
   (fun (n4 : Int) (b3 : Bool) (v1 : SV) =>
    some ([.one (.i .i64 (-1 : Int))], [])) KK (0 : Int) SV.undef SV.undef
def zr131 : List DV := [.one (.i .i64 0)]
def zo131 : Rw := []
def A131 : List TA := [.agg [.i .i64, .l], .one (.i .i64)]
abbrev Y128 := Rw → Int → Int → Int → Rw → Rs
def la128o1 (t105 : Y105) (t108 : Y108) (t130 : Y130) (t131 : Y131) (t132 : Y132) (n1 : Int) (l1 : Rw) (s1 : ByteArray) (b1 : Bool) (l2 : Rw) (n2 : Int) (l3 : Rw) (q1 : ByteArray → ByteArray → Int → Int → Int → Bool → Bool → Int → Int → Rs) (q2 : ByteArray → Int → Int → SV → Bool → SV → Int → Int → Rs) : Nat → ByteArray → Int → Int → SV → SV → SV → Int → Int → Rs
  | 0, _, _, _, _, _, _, _, _ => none
  | m + 1, s2, n3, n4, v1, v2, v3, n5, n6 =>
    let y1 := decide (n4 ≥ (0 : Int))
    if y1 then
     let y2 := t131 n2 l3 n3
     chk (okR zr131 zo131 y2) <|
     let y3 := asI (resC y2 0 0)
     let y4 := l3.getD y3.toNat []
     let y5 := decide (y3 < (0 : Int))
     chk ((decide (0 ≤ y3) && decide (y3 < l3.length) && isRow z165 y4) || !(!y5)) <|
     let y6 := y5 || (((asL (nthD y4 6)).length : Int) == (0 : Int))
     if y6 then
      chk (decide (s2.size + (⟨#[47]⟩ : ByteArray).size ≤ lim)) <|
      let y7 := t132 l2 n5 n6
      chk (okR zr132 zo132 y7) <|
      let y8 := s2 ++ (⟨#[47]⟩ : ByteArray)
      let y9 := asS (resC y7 0 0)
      chk (decide (y8.size + y9.size ≤ lim)) <|
      q1 (y8 ++ y9) s2 n3 n4 y3 y1 y6 (asI (outC y7 0 1)) (asI (outC y7 0 2))
     else
      let y10 := l3.getD y3.toNat []
      chk (decide (0 ≤ y3) && decide (y3 < l3.length) && isRow z165 y10) <|
      let y11 := l3.getD y3.toNat []
      chk (decide (0 ≤ y3) && decide (y3 < l3.length) && isRow z165 y11) <|
      let y12 := t105 l2 n5 n6 ((asL (nthD y11 6)).length : Int)
      chk (okR zr105 zo105 y12) <|
      let y13 := asI (resC y12 0 0)
      let y14 := asL (nthD y10 6)
      let y15 := y14.getD y13.toNat []
      chk (decide (0 ≤ y13) && decide (y13 < y14.length) && isRow z168 y15) <|
      chk (decide (s2.size + (⟨#[47]⟩ : ByteArray).size ≤ lim)) <|
      let y16 := s2 ++ (⟨#[47]⟩ : ByteArray)
      let y17 := asS (nthD y15 0)
      chk (decide (y16.size + y17.size ≤ lim)) <|
      la128o1 t105 t108 t130 t131 t132 n1 l1 s1 b1 l2 n2 l3 q1 q2 m (y16 ++ y17) (asI (nthD y15 1)) (w64 (n4 - (1 : Int))) (.d (.i .i64 y3)) (.d (.b y1)) (.d (.b y6)) (asI (outC y12 0 1)) (asI (outC y12 0 2))
    else
     q2 s2 n3 n4 (keepV [0, 192] v1) y1 (keepV [0, 192] v3) n5 n6
def ta128 (t105 : Y105) (t108 : Y108) (t130 : Y130) (t131 : Y131) (t132 : Y132) (l1 : Rw) (n1 n2 n3 : Int) (l2 : Rw) : Rs :=
  let y1 := t108 l1 n1 n2 (4 : Int)
  chk (okR zr108 zo108 y1) <|
  let y2 := asB (resC y1 0 0)
  if y2 then
   let y3 := asI (outC y1 0 1)
   let y4 := asI (outC y1 0 2)
   let y5 := t130 l1 y3 y4
   chk (okR zr130 zo130 y5) <|
   some ([.one (.s (asS (resC y5 0 0)))], [[.l l1, .i .i64 (asI (outC y5 0 1)), .i .i64 (asI (outC y5 0 2))]])
  else
   let y6 := asI (outC y1 0 1)
   let y7 := asI (outC y1 0 2)
   let y8 := t105 l1 y6 y7 (4 : Int)
   chk (okR zr105 zo105 y8) <|
   la128o1 t105 t108 t130 t131 t132 n3 l2 (⟨#[]⟩ : ByteArray) y2 l1 n3 l2
    (fun (s1 s2 : ByteArray) (n4 n5 n6 : Int) (b1 b2 : Bool) (n7 n8 : Int) =>
     some ([.one (.s s1)], [[.l l1, .i .i64 n7, .i .i64 n8]]))
    (fun (s3 : ByteArray) (n9 n10 : Int) (v1 : SV) (b3 : Bool) (v2 : SV) (n11 n12 : Int) =>
     some ([.one (.s s3)], [[.l l1, .i .i64 n11, .i .i64 n12]])) KK (⟨#[]⟩ : ByteArray) (1 : Int) (asI (resC y8 0 0)) SV.undef SV.undef SV.undef (asI (outC y8 0 1)) (asI (outC y8 0 2))
def t128 : Y128 := ta128 t105 t108 t130 t131 t132
def zr128 : List DV := [.one (.s ⟨#[]⟩)]
def zo128 : Rw := [[.l [], .i .i64 0, .i .i64 0]]
def A128 : List TA := [.ptr [.l, .i .i64, .i .i64], .agg [.i .i64, .l]]
abbrev Y109 := Rw → Int → Int → Int → Rs
def la109o0 (t105 : Y105) (t124 : Y124) (n1 : Int) (s1 : ByteArray) (n2 : Int) (l1 : Rw) (q1 : Int → SV → Bool → SV → SV → Int → Int → Rw → Rs) : Nat → Int → SV → SV → SV → SV → Int → Int → Rw → Rs
  | 0, _, _, _, _, _, _, _, _ => none
  | m + 1, n3, v1, v2, v3, v4, n4, n5, l2 =>
    let y1 := decide (n3 > (0 : Int))
    if y1 then
     let y2 := t124 l1 n4 n5
     chk (okR zr124 zo124 y2) <|
     let k1 := fun (n6 : Int) =>
      let k2 := fun (n7 : Int) =>
       let y3 := ([[.i .u8 (IntKind.wrap .u8 n7)]] : Rw)
       chk ((flatR 1 y3) && decide (l2.length + y3.length ≤ lim)) <|
       let y4 := n2 == (1 : Int)
       let y5 := n2 == (2 : Int)
       la109o0 t105 t124 n1 s1 n2 l1 q1 m (w64 (n3 - (1 : Int))) (.d (.i .i64 n7)) (.d (.b y1)) (.d (.b y4)) (.d (.b y5)) (asI (outC y2 0 1)) (asI (outC y2 0 2)) (l2 ++ y3)
      let y6 := n2 == (2 : Int)
      if y6 then
       k2 (w64 ((97 : Int) + (n6.tmod (4 : Int))))
      else
       k2 n6
     let y7 := n2 == (1 : Int)
     if y7 then
      let y8 := asI (resC y2 0 0)
      k1 (y8.tmod (2 : Int))
     else
      let y9 := asI (resC y2 0 0)
      k1 y9
    else
     q1 n3 (keepV [0, 576] v1) y1 (keepV [0, 576] v3) (keepV [0, 576] v4) n4 n5 l2
def ta109 (t105 : Y105) (t124 : Y124) (l1 : Rw) (n1 n2 n3 : Int) : Rs :=
  let y1 := t105 l1 n1 n2 (4 : Int)
  chk (okR zr105 zo105 y1) <|
  let y2 := t105 l1 (asI (outC y1 0 1)) (asI (outC y1 0 2)) (w64 (n3 + (1 : Int)))
  chk (okR zr105 zo105 y2) <|
  la109o0 t105 t124 n3 (⟨#[]⟩ : ByteArray) (asI (resC y1 0 0)) l1
   (fun (n4 : Int) (v1 : SV) (b1 : Bool) (v2 v3 : SV) (n5 n6 : Int) (l2 : Rw) =>
    chk (isBytes l2) <|
    some ([.one (.s ⟨(bytesD l2).toArray⟩)], [[.l l1, .i .i64 n5, .i .i64 n6]])) KK (asI (resC y2 0 0)) SV.undef SV.undef SV.undef SV.undef (asI (outC y2 0 1)) (asI (outC y2 0 2)) ([] : Rw)
def t109 : Y109 := ta109 t105 t124
def zr109 : List DV := [.one (.s ⟨#[]⟩)]
def zo109 : Rw := [[.l [], .i .i64 0, .i .i64 0]]
def A109 : List TA := [.ptr [.l, .i .i64, .i .i64], .one (.i .i64)]
abbrev Y126 := Rw → Int → Int → Int → Rw → Rs
def ta126 (t105 : Y105) (t108 : Y108) (t109 : Y109) (t122 : Y122) (t128 : Y128) (t129 : Y129) (t130 : Y130) (l1 : Rw) (n1 n2 n3 : Int) (l2 : Rw) : Rs :=
  let y1 := t122 l1 n1 n2 ([[.i .i64 (1 : Int)], [.i .i64 (1 : Int)], [.i .i64 (1 : Int)], [.i .i64 (2 : Int)], [.i .i64 (3 : Int)], [.i .i64 (3 : Int)], [.i .i64 (3 : Int)], [.i .i64 (4 : Int)], [.i .i64 (5 : Int)], [.i .i64 (5 : Int)], [.i .i64 (6 : Int)], [.i .i64 (7 : Int)], [.i .i64 (8 : Int)], [.i .i64 (9 : Int)], [.i .i64 (10 : Int)], [.i .i64 (10 : Int)], [.i .i64 (11 : Int)], [.i .i64 (12 : Int)], [.i .i64 (12 : Int)], [.i .i64 (12 : Int)], [.i .i64 (13 : Int)], [.i .i64 (14 : Int)], [.i .i64 (15 : Int)], [.i .i64 (16 : Int)], [.i .i64 (17 : Int)], [.i .i64 (18 : Int)], [.i .i64 (19 : Int)], [.i .i64 (20 : Int)]] : Rw)
  chk (okR zr122 zo122 y1) <|
  let y2 := t128 l1 (asI (outC y1 0 1)) (asI (outC y1 0 2)) n3 l2
  chk (okR zr128 zo128 y2) <|
  let k2 := fun (b1 : Bool) =>
   if b1 then
    let y3 := asI (outC y2 0 1)
    let y4 := asI (outC y2 0 2)
    let y5 := t122 l1 y3 y4 ([[.i .i64 (511 : Int)], [.i .i64 (511 : Int)], [.i .i64 (493 : Int)], [.i .i64 (448 : Int)], [.i .i64 (420 : Int)], [.i .i64 (1535 : Int)], [.i .i64 (1023 : Int)], [.i .i64 (0 : Int)], [.i .i64 (320 : Int)]] : Rw)
    chk (okR zr122 zo122 y5) <|
    let y6 := t108 l1 (asI (outC y5 0 1)) (asI (outC y5 0 2)) (25 : Int)
    chk (okR zr108 zo108 y6) <|
    if asB (resC y6 0 0) then
     let y7 := asI (outC y6 0 1)
     let y8 := asI (outC y6 0 2)
     let y9 := t105 l1 y7 y8 (6 : Int)
     chk (okR zr105 zo105 y9) <|
     let y10 := asI (resC y9 0 0)
     if y10 == (0 : Int) then
      let y11 := asI (outC y9 0 1)
      let y12 := asI (outC y9 0 2)
      let y13 := t122 l1 y11 y12 ([[.i .i64 (-1 : Int)], [.i .i64 (0 : Int)], [.i .i64 (21 : Int)], [.i .i64 (22 : Int)], [.i .i64 (23 : Int)]] : Rw)
      chk (okR zr122 zo122 y13) <|
      let y14 := asS (resC y2 0 0)
      let y15 := asI (resC y5 0 0)
      some ([.agg [.i .i64 (asI (resC y13 0 0)), .s y14, .s (⟨#[]⟩ : ByteArray), .i .i64 y15, .i .i64 (0 : Int), .s (⟨#[]⟩ : ByteArray)]], [[.l l1, .i .i64 (asI (outC y13 0 1)), .i .i64 (asI (outC y13 0 2))]])
     else
      if y10 == (1 : Int) then
       let y16 := asI (outC y9 0 1)
       let y17 := asI (outC y9 0 2)
       let y18 := t122 l1 y16 y17 ([[.i .i64 (-1 : Int)], [.i .i64 (2048 : Int)], [.i .i64 (65 : Int)], [.i .i64 (401 : Int)], [.i .i64 (1000000 : Int)], [.i .i64 (1000001 : Int)]] : Rw)
       chk (okR zr122 zo122 y18) <|
       let y19 := asI (resC y1 0 0)
       let y20 := asS (resC y2 0 0)
       some ([.agg [.i .i64 y19, .s y20, .s (⟨#[]⟩ : ByteArray), .i .i64 (asI (resC y18 0 0)), .i .i64 (0 : Int), .s (⟨#[]⟩ : ByteArray)]], [[.l l1, .i .i64 (asI (outC y18 0 1)), .i .i64 (asI (outC y18 0 2))]])
      else
       if y10 == (2 : Int) then
        let y21 := asI (outC y9 0 1)
        let y22 := asI (outC y9 0 2)
        let y23 := t122 l1 y21 y22 ([[.i .i64 (-1 : Int)], [.i .i64 (25 : Int)], [.i .i64 (1001 : Int)], [.i .i64 (1000001 : Int)]] : Rw)
        chk (okR zr122 zo122 y23) <|
        let y24 := asI (resC y1 0 0)
        let y25 := asS (resC y2 0 0)
        let y26 := asI (resC y5 0 0)
        some ([.agg [.i .i64 y24, .s y25, .s (⟨#[]⟩ : ByteArray), .i .i64 y26, .i .i64 (asI (resC y23 0 0)), .s (⟨#[]⟩ : ByteArray)]], [[.l l1, .i .i64 (asI (outC y23 0 1)), .i .i64 (asI (outC y23 0 2))]])
       else
        if y10 == (3 : Int) then
         chk (decide ((⟨#[]⟩ : ByteArray).size + (⟨#[121]⟩ : ByteArray).size ≤ lim)) <|
         let y27 := asI (resC y1 0 0)
         let y28 := asS (resC y2 0 0)
         let y29 := asI (resC y5 0 0)
         let y30 := asI (outC y9 0 1)
         let y31 := asI (outC y9 0 2)
         some ([.agg [.i .i64 y27, .s y28, .s (⟨#[]⟩ : ByteArray), .i .i64 y29, .i .i64 (0 : Int), .s ((⟨#[]⟩ : ByteArray) ++ (⟨#[121]⟩ : ByteArray))]], [[.l l1, .i .i64 y30, .i .i64 y31]])
        else
         let k5 := fun (n4 n5 : Int) (s1 s2 : ByteArray) =>
          let y32 := asI (resC y1 0 0)
          let y33 := asI (resC y5 0 0)
          some ([.agg [.i .i64 y32, .s s1, .s s2, .i .i64 y33, .i .i64 (0 : Int), .s (⟨#[]⟩ : ByteArray)]], [[.l l1, .i .i64 n4, .i .i64 n5]])
         if y10 == (4 : Int) then
          let y34 := asI (outC y9 0 1)
          let y35 := asI (outC y9 0 2)
          let y36 := t129 l1 y34 y35 ([[.s (⟨#[]⟩ : ByteArray)], [.s (⟨#[47, 122]⟩ : ByteArray)], [.s (⟨#[98, 97, 100, 32, 112, 97, 116, 104]⟩ : ByteArray)], [.s (⟨#[47, 47]⟩ : ByteArray)]] : Rw)
          chk (okR zr129 zo129 y36) <|
          let y37 := asS (resC y2 0 0)
          k5 (asI (outC y36 0 1)) (asI (outC y36 0 2)) y37 (asS (resC y36 0 0))
         else
          let y38 := asI (outC y9 0 1)
          let y39 := asI (outC y9 0 2)
          let y40 := t130 l1 y38 y39
          chk (okR zr130 zo130 y40) <|
          k5 (asI (outC y40 0 1)) (asI (outC y40 0 2)) (asS (resC y40 0 0)) (⟨#[]⟩ : ByteArray)
    else
     let y41 := asI (resC y1 0 0)
     let y42 := asS (resC y2 0 0)
     let y43 := asI (resC y5 0 0)
     let y44 := asI (outC y6 0 1)
     let y45 := asI (outC y6 0 2)
     some ([.agg [.i .i64 y41, .s y42, .s (⟨#[]⟩ : ByteArray), .i .i64 y43, .i .i64 (0 : Int), .s (⟨#[]⟩ : ByteArray)]], [[.l l1, .i .i64 y44, .i .i64 y45]])
   else
    let y46 := asI (resC y1 0 0)
    if y46 == (4 : Int) then
     let y47 := asI (outC y2 0 1)
     let y48 := asI (outC y2 0 2)
     let y49 := t105 l1 y47 y48 (8 : Int)
     chk (okR zr105 zo105 y49) <|
     let y50 := t105 l1 (asI (outC y49 0 1)) (asI (outC y49 0 2)) (20 : Int)
     chk (okR zr105 zo105 y50) <|
     let y51 := t108 l1 (asI (outC y50 0 1)) (asI (outC y50 0 2)) (25 : Int)
     chk (okR zr108 zo108 y51) <|
     if asB (resC y51 0 0) then
      let y52 := asI (outC y51 0 1)
      let y53 := asI (outC y51 0 2)
      let y54 := t105 l1 y52 y53 (6 : Int)
      chk (okR zr105 zo105 y54) <|
      let y55 := asI (resC y54 0 0)
      if y55 == (0 : Int) then
       let y56 := asI (outC y54 0 1)
       let y57 := asI (outC y54 0 2)
       let y58 := t122 l1 y56 y57 ([[.i .i64 (-1 : Int)], [.i .i64 (0 : Int)], [.i .i64 (21 : Int)], [.i .i64 (22 : Int)], [.i .i64 (23 : Int)]] : Rw)
       chk (okR zr122 zo122 y58) <|
       let y59 := asS (resC y2 0 0)
       let y60 := asI (resC y49 0 0)
       let y61 := asI (resC y50 0 0)
       some ([.agg [.i .i64 (asI (resC y58 0 0)), .s y59, .s (⟨#[]⟩ : ByteArray), .i .i64 y60, .i .i64 y61, .s (⟨#[]⟩ : ByteArray)]], [[.l l1, .i .i64 (asI (outC y58 0 1)), .i .i64 (asI (outC y58 0 2))]])
      else
       if y55 == (1 : Int) then
        let y62 := asI (outC y54 0 1)
        let y63 := asI (outC y54 0 2)
        let y64 := t122 l1 y62 y63 ([[.i .i64 (-1 : Int)], [.i .i64 (2048 : Int)], [.i .i64 (65 : Int)], [.i .i64 (401 : Int)], [.i .i64 (1000000 : Int)], [.i .i64 (1000001 : Int)]] : Rw)
        chk (okR zr122 zo122 y64) <|
        let y65 := asS (resC y2 0 0)
        let y66 := asI (resC y50 0 0)
        some ([.agg [.i .i64 y46, .s y65, .s (⟨#[]⟩ : ByteArray), .i .i64 (asI (resC y64 0 0)), .i .i64 y66, .s (⟨#[]⟩ : ByteArray)]], [[.l l1, .i .i64 (asI (outC y64 0 1)), .i .i64 (asI (outC y64 0 2))]])
       else
        if y55 == (2 : Int) then
         let y67 := asI (outC y54 0 1)
         let y68 := asI (outC y54 0 2)
         let y69 := t122 l1 y67 y68 ([[.i .i64 (-1 : Int)], [.i .i64 (25 : Int)], [.i .i64 (1001 : Int)], [.i .i64 (1000001 : Int)]] : Rw)
         chk (okR zr122 zo122 y69) <|
         let y70 := asS (resC y2 0 0)
         let y71 := asI (resC y49 0 0)
         some ([.agg [.i .i64 y46, .s y70, .s (⟨#[]⟩ : ByteArray), .i .i64 y71, .i .i64 (asI (resC y69 0 0)), .s (⟨#[]⟩ : ByteArray)]], [[.l l1, .i .i64 (asI (outC y69 0 1)), .i .i64 (asI (outC y69 0 2))]])
        else
         if y55 == (3 : Int) then
          chk (decide ((⟨#[]⟩ : ByteArray).size + (⟨#[121]⟩ : ByteArray).size ≤ lim)) <|
          let y72 := asS (resC y2 0 0)
          let y73 := asI (resC y49 0 0)
          let y74 := asI (resC y50 0 0)
          let y75 := asI (outC y54 0 1)
          let y76 := asI (outC y54 0 2)
          some ([.agg [.i .i64 y46, .s y72, .s (⟨#[]⟩ : ByteArray), .i .i64 y73, .i .i64 y74, .s ((⟨#[]⟩ : ByteArray) ++ (⟨#[121]⟩ : ByteArray))]], [[.l l1, .i .i64 y75, .i .i64 y76]])
         else
          let k6 := fun (n6 n7 : Int) (s3 s4 : ByteArray) =>
           let y77 := asI (resC y49 0 0)
           let y78 := asI (resC y50 0 0)
           some ([.agg [.i .i64 y46, .s s3, .s s4, .i .i64 y77, .i .i64 y78, .s (⟨#[]⟩ : ByteArray)]], [[.l l1, .i .i64 n6, .i .i64 n7]])
          if y55 == (4 : Int) then
           let y79 := asI (outC y54 0 1)
           let y80 := asI (outC y54 0 2)
           let y81 := t129 l1 y79 y80 ([[.s (⟨#[]⟩ : ByteArray)], [.s (⟨#[47, 122]⟩ : ByteArray)], [.s (⟨#[98, 97, 100, 32, 112, 97, 116, 104]⟩ : ByteArray)], [.s (⟨#[47, 47]⟩ : ByteArray)]] : Rw)
           chk (okR zr129 zo129 y81) <|
           let y82 := asS (resC y2 0 0)
           k6 (asI (outC y81 0 1)) (asI (outC y81 0 2)) y82 (asS (resC y81 0 0))
          else
           let y83 := asI (outC y54 0 1)
           let y84 := asI (outC y54 0 2)
           let y85 := t130 l1 y83 y84
           chk (okR zr130 zo130 y85) <|
           k6 (asI (outC y85 0 1)) (asI (outC y85 0 2)) (asS (resC y85 0 0)) (⟨#[]⟩ : ByteArray)
     else
      let y86 := asS (resC y2 0 0)
      let y87 := asI (resC y49 0 0)
      let y88 := asI (resC y50 0 0)
      let y89 := asI (outC y51 0 1)
      let y90 := asI (outC y51 0 2)
      some ([.agg [.i .i64 y46, .s y86, .s (⟨#[]⟩ : ByteArray), .i .i64 y87, .i .i64 y88, .s (⟨#[]⟩ : ByteArray)]], [[.l l1, .i .i64 y89, .i .i64 y90]])
    else
     if y46 == (5 : Int) then
      let y91 := asI (outC y2 0 1)
      let y92 := asI (outC y2 0 2)
      let y93 := t105 l1 y91 y92 (20 : Int)
      chk (okR zr105 zo105 y93) <|
      let y94 := t109 l1 (asI (outC y93 0 1)) (asI (outC y93 0 2)) (30 : Int)
      chk (okR zr109 zo109 y94) <|
      let y95 := t108 l1 (asI (outC y94 0 1)) (asI (outC y94 0 2)) (25 : Int)
      chk (okR zr108 zo108 y95) <|
      if asB (resC y95 0 0) then
       let y96 := asI (outC y95 0 1)
       let y97 := asI (outC y95 0 2)
       let y98 := t105 l1 y96 y97 (6 : Int)
       chk (okR zr105 zo105 y98) <|
       let y99 := asI (resC y98 0 0)
       if y99 == (0 : Int) then
        let y100 := asI (outC y98 0 1)
        let y101 := asI (outC y98 0 2)
        let y102 := t122 l1 y100 y101 ([[.i .i64 (-1 : Int)], [.i .i64 (0 : Int)], [.i .i64 (21 : Int)], [.i .i64 (22 : Int)], [.i .i64 (23 : Int)]] : Rw)
        chk (okR zr122 zo122 y102) <|
        let y103 := asS (resC y2 0 0)
        let y104 := asI (resC y93 0 0)
        let y105 := asS (resC y94 0 0)
        some ([.agg [.i .i64 (asI (resC y102 0 0)), .s y103, .s (⟨#[]⟩ : ByteArray), .i .i64 y104, .i .i64 (0 : Int), .s y105]], [[.l l1, .i .i64 (asI (outC y102 0 1)), .i .i64 (asI (outC y102 0 2))]])
       else
        if y99 == (1 : Int) then
         let y106 := asI (outC y98 0 1)
         let y107 := asI (outC y98 0 2)
         let y108 := t122 l1 y106 y107 ([[.i .i64 (-1 : Int)], [.i .i64 (2048 : Int)], [.i .i64 (65 : Int)], [.i .i64 (401 : Int)], [.i .i64 (1000000 : Int)], [.i .i64 (1000001 : Int)]] : Rw)
         chk (okR zr122 zo122 y108) <|
         let y109 := asS (resC y2 0 0)
         let y110 := asS (resC y94 0 0)
         some ([.agg [.i .i64 y46, .s y109, .s (⟨#[]⟩ : ByteArray), .i .i64 (asI (resC y108 0 0)), .i .i64 (0 : Int), .s y110]], [[.l l1, .i .i64 (asI (outC y108 0 1)), .i .i64 (asI (outC y108 0 2))]])
        else
         if y99 == (2 : Int) then
          let y111 := asI (outC y98 0 1)
          let y112 := asI (outC y98 0 2)
          let y113 := t122 l1 y111 y112 ([[.i .i64 (-1 : Int)], [.i .i64 (25 : Int)], [.i .i64 (1001 : Int)], [.i .i64 (1000001 : Int)]] : Rw)
          chk (okR zr122 zo122 y113) <|
          let y114 := asS (resC y2 0 0)
          let y115 := asI (resC y93 0 0)
          let y116 := asS (resC y94 0 0)
          some ([.agg [.i .i64 y46, .s y114, .s (⟨#[]⟩ : ByteArray), .i .i64 y115, .i .i64 (asI (resC y113 0 0)), .s y116]], [[.l l1, .i .i64 (asI (outC y113 0 1)), .i .i64 (asI (outC y113 0 2))]])
         else
          if y99 == (3 : Int) then
           let y117 := asS (resC y94 0 0)
           chk (decide (y117.size + (⟨#[121]⟩ : ByteArray).size ≤ lim)) <|
           let y118 := asS (resC y2 0 0)
           let y119 := asI (resC y93 0 0)
           let y120 := asI (outC y98 0 1)
           let y121 := asI (outC y98 0 2)
           some ([.agg [.i .i64 y46, .s y118, .s (⟨#[]⟩ : ByteArray), .i .i64 y119, .i .i64 (0 : Int), .s (y117 ++ (⟨#[121]⟩ : ByteArray))]], [[.l l1, .i .i64 y120, .i .i64 y121]])
          else
           let k7 := fun (n8 n9 : Int) (s5 s6 : ByteArray) =>
            let y122 := asI (resC y93 0 0)
            let y123 := asS (resC y94 0 0)
            some ([.agg [.i .i64 y46, .s s5, .s s6, .i .i64 y122, .i .i64 (0 : Int), .s y123]], [[.l l1, .i .i64 n8, .i .i64 n9]])
           if y99 == (4 : Int) then
            let y124 := asI (outC y98 0 1)
            let y125 := asI (outC y98 0 2)
            let y126 := t129 l1 y124 y125 ([[.s (⟨#[]⟩ : ByteArray)], [.s (⟨#[47, 122]⟩ : ByteArray)], [.s (⟨#[98, 97, 100, 32, 112, 97, 116, 104]⟩ : ByteArray)], [.s (⟨#[47, 47]⟩ : ByteArray)]] : Rw)
            chk (okR zr129 zo129 y126) <|
            let y127 := asS (resC y2 0 0)
            k7 (asI (outC y126 0 1)) (asI (outC y126 0 2)) y127 (asS (resC y126 0 0))
           else
            let y128 := asI (outC y98 0 1)
            let y129 := asI (outC y98 0 2)
            let y130 := t130 l1 y128 y129
            chk (okR zr130 zo130 y130) <|
            k7 (asI (outC y130 0 1)) (asI (outC y130 0 2)) (asS (resC y130 0 0)) (⟨#[]⟩ : ByteArray)
      else
       let y131 := asS (resC y2 0 0)
       let y132 := asI (resC y93 0 0)
       let y133 := asS (resC y94 0 0)
       let y134 := asI (outC y95 0 1)
       let y135 := asI (outC y95 0 2)
       some ([.agg [.i .i64 y46, .s y131, .s (⟨#[]⟩ : ByteArray), .i .i64 y132, .i .i64 (0 : Int), .s y133]], [[.l l1, .i .i64 y134, .i .i64 y135]])
     else
      if y46 == (6 : Int) then
       let y136 := asI (outC y2 0 1)
       let y137 := asI (outC y2 0 2)
       let y138 := t109 l1 y136 y137 (30 : Int)
       chk (okR zr109 zo109 y138) <|
       let y139 := t108 l1 (asI (outC y138 0 1)) (asI (outC y138 0 2)) (25 : Int)
       chk (okR zr108 zo108 y139) <|
       if asB (resC y139 0 0) then
        let y140 := asI (outC y139 0 1)
        let y141 := asI (outC y139 0 2)
        let y142 := t105 l1 y140 y141 (6 : Int)
        chk (okR zr105 zo105 y142) <|
        let y143 := asI (resC y142 0 0)
        if y143 == (0 : Int) then
         let y144 := asI (outC y142 0 1)
         let y145 := asI (outC y142 0 2)
         let y146 := t122 l1 y144 y145 ([[.i .i64 (-1 : Int)], [.i .i64 (0 : Int)], [.i .i64 (21 : Int)], [.i .i64 (22 : Int)], [.i .i64 (23 : Int)]] : Rw)
         chk (okR zr122 zo122 y146) <|
         let y147 := asS (resC y2 0 0)
         let y148 := asS (resC y138 0 0)
         some ([.agg [.i .i64 (asI (resC y146 0 0)), .s y147, .s (⟨#[]⟩ : ByteArray), .i .i64 (0 : Int), .i .i64 (0 : Int), .s y148]], [[.l l1, .i .i64 (asI (outC y146 0 1)), .i .i64 (asI (outC y146 0 2))]])
        else
         if y143 == (1 : Int) then
          let y149 := asI (outC y142 0 1)
          let y150 := asI (outC y142 0 2)
          let y151 := t122 l1 y149 y150 ([[.i .i64 (-1 : Int)], [.i .i64 (2048 : Int)], [.i .i64 (65 : Int)], [.i .i64 (401 : Int)], [.i .i64 (1000000 : Int)], [.i .i64 (1000001 : Int)]] : Rw)
          chk (okR zr122 zo122 y151) <|
          let y152 := asS (resC y2 0 0)
          let y153 := asS (resC y138 0 0)
          some ([.agg [.i .i64 y46, .s y152, .s (⟨#[]⟩ : ByteArray), .i .i64 (asI (resC y151 0 0)), .i .i64 (0 : Int), .s y153]], [[.l l1, .i .i64 (asI (outC y151 0 1)), .i .i64 (asI (outC y151 0 2))]])
         else
          if y143 == (2 : Int) then
           let y154 := asI (outC y142 0 1)
           let y155 := asI (outC y142 0 2)
           let y156 := t122 l1 y154 y155 ([[.i .i64 (-1 : Int)], [.i .i64 (25 : Int)], [.i .i64 (1001 : Int)], [.i .i64 (1000001 : Int)]] : Rw)
           chk (okR zr122 zo122 y156) <|
           let y157 := asS (resC y2 0 0)
           let y158 := asS (resC y138 0 0)
           some ([.agg [.i .i64 y46, .s y157, .s (⟨#[]⟩ : ByteArray), .i .i64 (0 : Int), .i .i64 (asI (resC y156 0 0)), .s y158]], [[.l l1, .i .i64 (asI (outC y156 0 1)), .i .i64 (asI (outC y156 0 2))]])
          else
           if y143 == (3 : Int) then
            let y159 := asS (resC y138 0 0)
            chk (decide (y159.size + (⟨#[121]⟩ : ByteArray).size ≤ lim)) <|
            let y160 := asS (resC y2 0 0)
            let y161 := asI (outC y142 0 1)
            let y162 := asI (outC y142 0 2)
            some ([.agg [.i .i64 y46, .s y160, .s (⟨#[]⟩ : ByteArray), .i .i64 (0 : Int), .i .i64 (0 : Int), .s (y159 ++ (⟨#[121]⟩ : ByteArray))]], [[.l l1, .i .i64 y161, .i .i64 y162]])
           else
            let k8 := fun (n10 n11 : Int) (s7 s8 : ByteArray) =>
             let y163 := asS (resC y138 0 0)
             some ([.agg [.i .i64 y46, .s s7, .s s8, .i .i64 (0 : Int), .i .i64 (0 : Int), .s y163]], [[.l l1, .i .i64 n10, .i .i64 n11]])
            if y143 == (4 : Int) then
             let y164 := asI (outC y142 0 1)
             let y165 := asI (outC y142 0 2)
             let y166 := t129 l1 y164 y165 ([[.s (⟨#[]⟩ : ByteArray)], [.s (⟨#[47, 122]⟩ : ByteArray)], [.s (⟨#[98, 97, 100, 32, 112, 97, 116, 104]⟩ : ByteArray)], [.s (⟨#[47, 47]⟩ : ByteArray)]] : Rw)
             chk (okR zr129 zo129 y166) <|
             let y167 := asS (resC y2 0 0)
             k8 (asI (outC y166 0 1)) (asI (outC y166 0 2)) y167 (asS (resC y166 0 0))
            else
             let y168 := asI (outC y142 0 1)
             let y169 := asI (outC y142 0 2)
             let y170 := t130 l1 y168 y169
             chk (okR zr130 zo130 y170) <|
             k8 (asI (outC y170 0 1)) (asI (outC y170 0 2)) (asS (resC y170 0 0)) (⟨#[]⟩ : ByteArray)
       else
        let y171 := asS (resC y2 0 0)
        let y172 := asS (resC y138 0 0)
        let y173 := asI (outC y139 0 1)
        let y174 := asI (outC y139 0 2)
        some ([.agg [.i .i64 y46, .s y171, .s (⟨#[]⟩ : ByteArray), .i .i64 (0 : Int), .i .i64 (0 : Int), .s y172]], [[.l l1, .i .i64 y173, .i .i64 y174]])
      else
       if y46 == (7 : Int) then
        let y175 := asI (outC y2 0 1)
        let y176 := asI (outC y2 0 2)
        let y177 := t105 l1 y175 y176 (70 : Int)
        chk (okR zr105 zo105 y177) <|
        let y178 := t108 l1 (asI (outC y177 0 1)) (asI (outC y177 0 2)) (25 : Int)
        chk (okR zr108 zo108 y178) <|
        if asB (resC y178 0 0) then
         let y179 := asI (outC y178 0 1)
         let y180 := asI (outC y178 0 2)
         let y181 := t105 l1 y179 y180 (6 : Int)
         chk (okR zr105 zo105 y181) <|
         let y182 := asI (resC y181 0 0)
         if y182 == (0 : Int) then
          let y183 := asI (outC y181 0 1)
          let y184 := asI (outC y181 0 2)
          let y185 := t122 l1 y183 y184 ([[.i .i64 (-1 : Int)], [.i .i64 (0 : Int)], [.i .i64 (21 : Int)], [.i .i64 (22 : Int)], [.i .i64 (23 : Int)]] : Rw)
          chk (okR zr122 zo122 y185) <|
          let y186 := asS (resC y2 0 0)
          let y187 := asI (resC y177 0 0)
          some ([.agg [.i .i64 (asI (resC y185 0 0)), .s y186, .s (⟨#[]⟩ : ByteArray), .i .i64 y187, .i .i64 (0 : Int), .s (⟨#[]⟩ : ByteArray)]], [[.l l1, .i .i64 (asI (outC y185 0 1)), .i .i64 (asI (outC y185 0 2))]])
         else
          if y182 == (1 : Int) then
           let y188 := asI (outC y181 0 1)
           let y189 := asI (outC y181 0 2)
           let y190 := t122 l1 y188 y189 ([[.i .i64 (-1 : Int)], [.i .i64 (2048 : Int)], [.i .i64 (65 : Int)], [.i .i64 (401 : Int)], [.i .i64 (1000000 : Int)], [.i .i64 (1000001 : Int)]] : Rw)
           chk (okR zr122 zo122 y190) <|
           let y191 := asS (resC y2 0 0)
           some ([.agg [.i .i64 y46, .s y191, .s (⟨#[]⟩ : ByteArray), .i .i64 (asI (resC y190 0 0)), .i .i64 (0 : Int), .s (⟨#[]⟩ : ByteArray)]], [[.l l1, .i .i64 (asI (outC y190 0 1)), .i .i64 (asI (outC y190 0 2))]])
          else
           if y182 == (2 : Int) then
            let y192 := asI (outC y181 0 1)
            let y193 := asI (outC y181 0 2)
            let y194 := t122 l1 y192 y193 ([[.i .i64 (-1 : Int)], [.i .i64 (25 : Int)], [.i .i64 (1001 : Int)], [.i .i64 (1000001 : Int)]] : Rw)
            chk (okR zr122 zo122 y194) <|
            let y195 := asS (resC y2 0 0)
            let y196 := asI (resC y177 0 0)
            some ([.agg [.i .i64 y46, .s y195, .s (⟨#[]⟩ : ByteArray), .i .i64 y196, .i .i64 (asI (resC y194 0 0)), .s (⟨#[]⟩ : ByteArray)]], [[.l l1, .i .i64 (asI (outC y194 0 1)), .i .i64 (asI (outC y194 0 2))]])
           else
            if y182 == (3 : Int) then
             chk (decide ((⟨#[]⟩ : ByteArray).size + (⟨#[121]⟩ : ByteArray).size ≤ lim)) <|
             let y197 := asS (resC y2 0 0)
             let y198 := asI (resC y177 0 0)
             let y199 := asI (outC y181 0 1)
             let y200 := asI (outC y181 0 2)
             some ([.agg [.i .i64 y46, .s y197, .s (⟨#[]⟩ : ByteArray), .i .i64 y198, .i .i64 (0 : Int), .s ((⟨#[]⟩ : ByteArray) ++ (⟨#[121]⟩ : ByteArray))]], [[.l l1, .i .i64 y199, .i .i64 y200]])
            else
             let k9 := fun (n12 n13 : Int) (s9 s10 : ByteArray) =>
              let y201 := asI (resC y177 0 0)
              some ([.agg [.i .i64 y46, .s s9, .s s10, .i .i64 y201, .i .i64 (0 : Int), .s (⟨#[]⟩ : ByteArray)]], [[.l l1, .i .i64 n12, .i .i64 n13]])
             if y182 == (4 : Int) then
              let y202 := asI (outC y181 0 1)
              let y203 := asI (outC y181 0 2)
              let y204 := t129 l1 y202 y203 ([[.s (⟨#[]⟩ : ByteArray)], [.s (⟨#[47, 122]⟩ : ByteArray)], [.s (⟨#[98, 97, 100, 32, 112, 97, 116, 104]⟩ : ByteArray)], [.s (⟨#[47, 47]⟩ : ByteArray)]] : Rw)
              chk (okR zr129 zo129 y204) <|
              let y205 := asS (resC y2 0 0)
              k9 (asI (outC y204 0 1)) (asI (outC y204 0 2)) y205 (asS (resC y204 0 0))
             else
              let y206 := asI (outC y181 0 1)
              let y207 := asI (outC y181 0 2)
              let y208 := t130 l1 y206 y207
              chk (okR zr130 zo130 y208) <|
              k9 (asI (outC y208 0 1)) (asI (outC y208 0 2)) (asS (resC y208 0 0)) (⟨#[]⟩ : ByteArray)
        else
         let y209 := asS (resC y2 0 0)
         let y210 := asI (resC y177 0 0)
         let y211 := asI (outC y178 0 1)
         let y212 := asI (outC y178 0 2)
         some ([.agg [.i .i64 y46, .s y209, .s (⟨#[]⟩ : ByteArray), .i .i64 y210, .i .i64 (0 : Int), .s (⟨#[]⟩ : ByteArray)]], [[.l l1, .i .i64 y211, .i .i64 y212]])
       else
        let k3 := fun (b2 : Bool) =>
         if b2 then
          let y213 := asI (outC y2 0 1)
          let y214 := asI (outC y2 0 2)
          let y215 := t128 l1 y213 y214 n3 l2
          chk (okR zr128 zo128 y215) <|
          let y216 := t108 l1 (asI (outC y215 0 1)) (asI (outC y215 0 2)) (25 : Int)
          chk (okR zr108 zo108 y216) <|
          if asB (resC y216 0 0) then
           let y217 := asI (outC y216 0 1)
           let y218 := asI (outC y216 0 2)
           let y219 := t105 l1 y217 y218 (6 : Int)
           chk (okR zr105 zo105 y219) <|
           let y220 := asI (resC y219 0 0)
           if y220 == (0 : Int) then
            let y221 := asI (outC y219 0 1)
            let y222 := asI (outC y219 0 2)
            let y223 := t122 l1 y221 y222 ([[.i .i64 (-1 : Int)], [.i .i64 (0 : Int)], [.i .i64 (21 : Int)], [.i .i64 (22 : Int)], [.i .i64 (23 : Int)]] : Rw)
            chk (okR zr122 zo122 y223) <|
            let y224 := asS (resC y2 0 0)
            let y225 := asS (resC y215 0 0)
            some ([.agg [.i .i64 (asI (resC y223 0 0)), .s y224, .s y225, .i .i64 (0 : Int), .i .i64 (0 : Int), .s (⟨#[]⟩ : ByteArray)]], [[.l l1, .i .i64 (asI (outC y223 0 1)), .i .i64 (asI (outC y223 0 2))]])
           else
            if y220 == (1 : Int) then
             let y226 := asI (outC y219 0 1)
             let y227 := asI (outC y219 0 2)
             let y228 := t122 l1 y226 y227 ([[.i .i64 (-1 : Int)], [.i .i64 (2048 : Int)], [.i .i64 (65 : Int)], [.i .i64 (401 : Int)], [.i .i64 (1000000 : Int)], [.i .i64 (1000001 : Int)]] : Rw)
             chk (okR zr122 zo122 y228) <|
             let y229 := asS (resC y2 0 0)
             let y230 := asS (resC y215 0 0)
             some ([.agg [.i .i64 y46, .s y229, .s y230, .i .i64 (asI (resC y228 0 0)), .i .i64 (0 : Int), .s (⟨#[]⟩ : ByteArray)]], [[.l l1, .i .i64 (asI (outC y228 0 1)), .i .i64 (asI (outC y228 0 2))]])
            else
             if y220 == (2 : Int) then
              let y231 := asI (outC y219 0 1)
              let y232 := asI (outC y219 0 2)
              let y233 := t122 l1 y231 y232 ([[.i .i64 (-1 : Int)], [.i .i64 (25 : Int)], [.i .i64 (1001 : Int)], [.i .i64 (1000001 : Int)]] : Rw)
              chk (okR zr122 zo122 y233) <|
              let y234 := asS (resC y2 0 0)
              let y235 := asS (resC y215 0 0)
              some ([.agg [.i .i64 y46, .s y234, .s y235, .i .i64 (0 : Int), .i .i64 (asI (resC y233 0 0)), .s (⟨#[]⟩ : ByteArray)]], [[.l l1, .i .i64 (asI (outC y233 0 1)), .i .i64 (asI (outC y233 0 2))]])
             else
              if y220 == (3 : Int) then
               chk (decide ((⟨#[]⟩ : ByteArray).size + (⟨#[121]⟩ : ByteArray).size ≤ lim)) <|
               let y236 := asS (resC y2 0 0)
               let y237 := asS (resC y215 0 0)
               let y238 := asI (outC y219 0 1)
               let y239 := asI (outC y219 0 2)
               some ([.agg [.i .i64 y46, .s y236, .s y237, .i .i64 (0 : Int), .i .i64 (0 : Int), .s ((⟨#[]⟩ : ByteArray) ++ (⟨#[121]⟩ : ByteArray))]], [[.l l1, .i .i64 y238, .i .i64 y239]])
              else
               let k10 := fun (n14 n15 : Int) (s11 s12 : ByteArray) =>
                some ([.agg [.i .i64 y46, .s s11, .s s12, .i .i64 (0 : Int), .i .i64 (0 : Int), .s (⟨#[]⟩ : ByteArray)]], [[.l l1, .i .i64 n14, .i .i64 n15]])
               if y220 == (4 : Int) then
                let y240 := asI (outC y219 0 1)
                let y241 := asI (outC y219 0 2)
                let y242 := t129 l1 y240 y241 ([[.s (⟨#[]⟩ : ByteArray)], [.s (⟨#[47, 122]⟩ : ByteArray)], [.s (⟨#[98, 97, 100, 32, 112, 97, 116, 104]⟩ : ByteArray)], [.s (⟨#[47, 47]⟩ : ByteArray)]] : Rw)
                chk (okR zr129 zo129 y242) <|
                let y243 := asS (resC y2 0 0)
                k10 (asI (outC y242 0 1)) (asI (outC y242 0 2)) y243 (asS (resC y242 0 0))
               else
                let y244 := asI (outC y219 0 1)
                let y245 := asI (outC y219 0 2)
                let y246 := t130 l1 y244 y245
                chk (okR zr130 zo130 y246) <|
                let y247 := asS (resC y215 0 0)
                k10 (asI (outC y246 0 1)) (asI (outC y246 0 2)) (asS (resC y246 0 0)) y247
          else
           let y248 := asS (resC y2 0 0)
           let y249 := asS (resC y215 0 0)
           let y250 := asI (outC y216 0 1)
           let y251 := asI (outC y216 0 2)
           some ([.agg [.i .i64 y46, .s y248, .s y249, .i .i64 (0 : Int), .i .i64 (0 : Int), .s (⟨#[]⟩ : ByteArray)]], [[.l l1, .i .i64 y250, .i .i64 y251]])
         else
          if y46 == (10 : Int) then
           let y252 := asI (outC y2 0 1)
           let y253 := asI (outC y2 0 2)
           let y254 := t129 l1 y252 y253 ([[.s (⟨#[47, 97]⟩ : ByteArray)], [.s (⟨#[98]⟩ : ByteArray)], [.s (⟨#[46, 46, 47, 99]⟩ : ByteArray)], [.s (⟨#[47, 115, 117, 98, 47, 97]⟩ : ByteArray)], [.s (⟨#[46]⟩ : ByteArray)], [.s (⟨#[47]⟩ : ByteArray)], [.s (⟨#[100, 49, 47, 98]⟩ : ByteArray)], [.s (⟨#[47, 99]⟩ : ByteArray)]] : Rw)
           chk (okR zr129 zo129 y254) <|
           let y255 := t108 l1 (asI (outC y254 0 1)) (asI (outC y254 0 2)) (25 : Int)
           chk (okR zr108 zo108 y255) <|
           if asB (resC y255 0 0) then
            let y256 := asI (outC y255 0 1)
            let y257 := asI (outC y255 0 2)
            let y258 := t105 l1 y256 y257 (6 : Int)
            chk (okR zr105 zo105 y258) <|
            let y259 := asI (resC y258 0 0)
            if y259 == (0 : Int) then
             let y260 := asI (outC y258 0 1)
             let y261 := asI (outC y258 0 2)
             let y262 := t122 l1 y260 y261 ([[.i .i64 (-1 : Int)], [.i .i64 (0 : Int)], [.i .i64 (21 : Int)], [.i .i64 (22 : Int)], [.i .i64 (23 : Int)]] : Rw)
             chk (okR zr122 zo122 y262) <|
             let y263 := asS (resC y2 0 0)
             let y264 := asS (resC y254 0 0)
             some ([.agg [.i .i64 (asI (resC y262 0 0)), .s y263, .s y264, .i .i64 (0 : Int), .i .i64 (0 : Int), .s (⟨#[]⟩ : ByteArray)]], [[.l l1, .i .i64 (asI (outC y262 0 1)), .i .i64 (asI (outC y262 0 2))]])
            else
             if y259 == (1 : Int) then
              let y265 := asI (outC y258 0 1)
              let y266 := asI (outC y258 0 2)
              let y267 := t122 l1 y265 y266 ([[.i .i64 (-1 : Int)], [.i .i64 (2048 : Int)], [.i .i64 (65 : Int)], [.i .i64 (401 : Int)], [.i .i64 (1000000 : Int)], [.i .i64 (1000001 : Int)]] : Rw)
              chk (okR zr122 zo122 y267) <|
              let y268 := asS (resC y2 0 0)
              let y269 := asS (resC y254 0 0)
              some ([.agg [.i .i64 y46, .s y268, .s y269, .i .i64 (asI (resC y267 0 0)), .i .i64 (0 : Int), .s (⟨#[]⟩ : ByteArray)]], [[.l l1, .i .i64 (asI (outC y267 0 1)), .i .i64 (asI (outC y267 0 2))]])
             else
              if y259 == (2 : Int) then
               let y270 := asI (outC y258 0 1)
               let y271 := asI (outC y258 0 2)
               let y272 := t122 l1 y270 y271 ([[.i .i64 (-1 : Int)], [.i .i64 (25 : Int)], [.i .i64 (1001 : Int)], [.i .i64 (1000001 : Int)]] : Rw)
               chk (okR zr122 zo122 y272) <|
               let y273 := asS (resC y2 0 0)
               let y274 := asS (resC y254 0 0)
               some ([.agg [.i .i64 y46, .s y273, .s y274, .i .i64 (0 : Int), .i .i64 (asI (resC y272 0 0)), .s (⟨#[]⟩ : ByteArray)]], [[.l l1, .i .i64 (asI (outC y272 0 1)), .i .i64 (asI (outC y272 0 2))]])
              else
               if y259 == (3 : Int) then
                chk (decide ((⟨#[]⟩ : ByteArray).size + (⟨#[121]⟩ : ByteArray).size ≤ lim)) <|
                let y275 := asS (resC y2 0 0)
                let y276 := asS (resC y254 0 0)
                let y277 := asI (outC y258 0 1)
                let y278 := asI (outC y258 0 2)
                some ([.agg [.i .i64 y46, .s y275, .s y276, .i .i64 (0 : Int), .i .i64 (0 : Int), .s ((⟨#[]⟩ : ByteArray) ++ (⟨#[121]⟩ : ByteArray))]], [[.l l1, .i .i64 y277, .i .i64 y278]])
               else
                let k11 := fun (n16 n17 : Int) (s13 s14 : ByteArray) =>
                 some ([.agg [.i .i64 y46, .s s13, .s s14, .i .i64 (0 : Int), .i .i64 (0 : Int), .s (⟨#[]⟩ : ByteArray)]], [[.l l1, .i .i64 n16, .i .i64 n17]])
                if y259 == (4 : Int) then
                 let y279 := asI (outC y258 0 1)
                 let y280 := asI (outC y258 0 2)
                 let y281 := t129 l1 y279 y280 ([[.s (⟨#[]⟩ : ByteArray)], [.s (⟨#[47, 122]⟩ : ByteArray)], [.s (⟨#[98, 97, 100, 32, 112, 97, 116, 104]⟩ : ByteArray)], [.s (⟨#[47, 47]⟩ : ByteArray)]] : Rw)
                 chk (okR zr129 zo129 y281) <|
                 let y282 := asS (resC y2 0 0)
                 k11 (asI (outC y281 0 1)) (asI (outC y281 0 2)) y282 (asS (resC y281 0 0))
                else
                 let y283 := asI (outC y258 0 1)
                 let y284 := asI (outC y258 0 2)
                 let y285 := t130 l1 y283 y284
                 chk (okR zr130 zo130 y285) <|
                 let y286 := asS (resC y254 0 0)
                 k11 (asI (outC y285 0 1)) (asI (outC y285 0 2)) (asS (resC y285 0 0)) y286
           else
            let y287 := asS (resC y2 0 0)
            let y288 := asS (resC y254 0 0)
            let y289 := asI (outC y255 0 1)
            let y290 := asI (outC y255 0 2)
            some ([.agg [.i .i64 y46, .s y287, .s y288, .i .i64 (0 : Int), .i .i64 (0 : Int), .s (⟨#[]⟩ : ByteArray)]], [[.l l1, .i .i64 y289, .i .i64 y290]])
          else
           if y46 == (14 : Int) then
            let y291 := asI (outC y2 0 1)
            let y292 := asI (outC y2 0 2)
            let y293 := t105 l1 y291 y292 (2 : Int)
            chk (okR zr105 zo105 y293) <|
            let y294 := t108 l1 (asI (outC y293 0 1)) (asI (outC y293 0 2)) (25 : Int)
            chk (okR zr108 zo108 y294) <|
            if asB (resC y294 0 0) then
             let y295 := asI (outC y294 0 1)
             let y296 := asI (outC y294 0 2)
             let y297 := t105 l1 y295 y296 (6 : Int)
             chk (okR zr105 zo105 y297) <|
             let y298 := asI (resC y297 0 0)
             if y298 == (0 : Int) then
              let y299 := asI (outC y297 0 1)
              let y300 := asI (outC y297 0 2)
              let y301 := t122 l1 y299 y300 ([[.i .i64 (-1 : Int)], [.i .i64 (0 : Int)], [.i .i64 (21 : Int)], [.i .i64 (22 : Int)], [.i .i64 (23 : Int)]] : Rw)
              chk (okR zr122 zo122 y301) <|
              let y302 := asS (resC y2 0 0)
              let y303 := asI (resC y293 0 0)
              some ([.agg [.i .i64 (asI (resC y301 0 0)), .s y302, .s (⟨#[]⟩ : ByteArray), .i .i64 y303, .i .i64 (0 : Int), .s (⟨#[]⟩ : ByteArray)]], [[.l l1, .i .i64 (asI (outC y301 0 1)), .i .i64 (asI (outC y301 0 2))]])
             else
              if y298 == (1 : Int) then
               let y304 := asI (outC y297 0 1)
               let y305 := asI (outC y297 0 2)
               let y306 := t122 l1 y304 y305 ([[.i .i64 (-1 : Int)], [.i .i64 (2048 : Int)], [.i .i64 (65 : Int)], [.i .i64 (401 : Int)], [.i .i64 (1000000 : Int)], [.i .i64 (1000001 : Int)]] : Rw)
               chk (okR zr122 zo122 y306) <|
               let y307 := asS (resC y2 0 0)
               some ([.agg [.i .i64 y46, .s y307, .s (⟨#[]⟩ : ByteArray), .i .i64 (asI (resC y306 0 0)), .i .i64 (0 : Int), .s (⟨#[]⟩ : ByteArray)]], [[.l l1, .i .i64 (asI (outC y306 0 1)), .i .i64 (asI (outC y306 0 2))]])
              else
               if y298 == (2 : Int) then
                let y308 := asI (outC y297 0 1)
                let y309 := asI (outC y297 0 2)
                let y310 := t122 l1 y308 y309 ([[.i .i64 (-1 : Int)], [.i .i64 (25 : Int)], [.i .i64 (1001 : Int)], [.i .i64 (1000001 : Int)]] : Rw)
                chk (okR zr122 zo122 y310) <|
                let y311 := asS (resC y2 0 0)
                let y312 := asI (resC y293 0 0)
                some ([.agg [.i .i64 y46, .s y311, .s (⟨#[]⟩ : ByteArray), .i .i64 y312, .i .i64 (asI (resC y310 0 0)), .s (⟨#[]⟩ : ByteArray)]], [[.l l1, .i .i64 (asI (outC y310 0 1)), .i .i64 (asI (outC y310 0 2))]])
               else
                if y298 == (3 : Int) then
                 chk (decide ((⟨#[]⟩ : ByteArray).size + (⟨#[121]⟩ : ByteArray).size ≤ lim)) <|
                 let y313 := asS (resC y2 0 0)
                 let y314 := asI (resC y293 0 0)
                 let y315 := asI (outC y297 0 1)
                 let y316 := asI (outC y297 0 2)
                 some ([.agg [.i .i64 y46, .s y313, .s (⟨#[]⟩ : ByteArray), .i .i64 y314, .i .i64 (0 : Int), .s ((⟨#[]⟩ : ByteArray) ++ (⟨#[121]⟩ : ByteArray))]], [[.l l1, .i .i64 y315, .i .i64 y316]])
                else
                 let k12 := fun (n18 n19 : Int) (s15 s16 : ByteArray) =>
                  let y317 := asI (resC y293 0 0)
                  some ([.agg [.i .i64 y46, .s s15, .s s16, .i .i64 y317, .i .i64 (0 : Int), .s (⟨#[]⟩ : ByteArray)]], [[.l l1, .i .i64 n18, .i .i64 n19]])
                 if y298 == (4 : Int) then
                  let y318 := asI (outC y297 0 1)
                  let y319 := asI (outC y297 0 2)
                  let y320 := t129 l1 y318 y319 ([[.s (⟨#[]⟩ : ByteArray)], [.s (⟨#[47, 122]⟩ : ByteArray)], [.s (⟨#[98, 97, 100, 32, 112, 97, 116, 104]⟩ : ByteArray)], [.s (⟨#[47, 47]⟩ : ByteArray)]] : Rw)
                  chk (okR zr129 zo129 y320) <|
                  let y321 := asS (resC y2 0 0)
                  k12 (asI (outC y320 0 1)) (asI (outC y320 0 2)) y321 (asS (resC y320 0 0))
                 else
                  let y322 := asI (outC y297 0 1)
                  let y323 := asI (outC y297 0 2)
                  let y324 := t130 l1 y322 y323
                  chk (okR zr130 zo130 y324) <|
                  k12 (asI (outC y324 0 1)) (asI (outC y324 0 2)) (asS (resC y324 0 0)) (⟨#[]⟩ : ByteArray)
            else
             let y325 := asS (resC y2 0 0)
             let y326 := asI (resC y293 0 0)
             let y327 := asI (outC y294 0 1)
             let y328 := asI (outC y294 0 2)
             some ([.agg [.i .i64 y46, .s y325, .s (⟨#[]⟩ : ByteArray), .i .i64 y326, .i .i64 (0 : Int), .s (⟨#[]⟩ : ByteArray)]], [[.l l1, .i .i64 y327, .i .i64 y328]])
           else
            if y46 == (16 : Int) then
             let y329 := asI (outC y2 0 1)
             let y330 := asI (outC y2 0 2)
             let y331 := t122 l1 y329 y330 ([[.i .i64 (0 : Int)], [.i .i64 (2 : Int)], [.i .i64 (3 : Int)]] : Rw)
             chk (okR zr122 zo122 y331) <|
             let y332 := t122 l1 (asI (outC y331 0 1)) (asI (outC y331 0 2)) ([[.i .i64 (0 : Int)], [.i .i64 (2 : Int)], [.i .i64 (5 : Int)]] : Rw)
             chk (okR zr122 zo122 y332) <|
             let y333 := t108 l1 (asI (outC y332 0 1)) (asI (outC y332 0 2)) (25 : Int)
             chk (okR zr108 zo108 y333) <|
             if asB (resC y333 0 0) then
              let y334 := asI (outC y333 0 1)
              let y335 := asI (outC y333 0 2)
              let y336 := t105 l1 y334 y335 (6 : Int)
              chk (okR zr105 zo105 y336) <|
              let y337 := asI (resC y336 0 0)
              if y337 == (0 : Int) then
               let y338 := asI (outC y336 0 1)
               let y339 := asI (outC y336 0 2)
               let y340 := t122 l1 y338 y339 ([[.i .i64 (-1 : Int)], [.i .i64 (0 : Int)], [.i .i64 (21 : Int)], [.i .i64 (22 : Int)], [.i .i64 (23 : Int)]] : Rw)
               chk (okR zr122 zo122 y340) <|
               let y341 := asS (resC y2 0 0)
               let y342 := asI (resC y331 0 0)
               let y343 := asI (resC y332 0 0)
               some ([.agg [.i .i64 (asI (resC y340 0 0)), .s y341, .s (⟨#[]⟩ : ByteArray), .i .i64 y342, .i .i64 y343, .s (⟨#[]⟩ : ByteArray)]], [[.l l1, .i .i64 (asI (outC y340 0 1)), .i .i64 (asI (outC y340 0 2))]])
              else
               if y337 == (1 : Int) then
                let y344 := asI (outC y336 0 1)
                let y345 := asI (outC y336 0 2)
                let y346 := t122 l1 y344 y345 ([[.i .i64 (-1 : Int)], [.i .i64 (2048 : Int)], [.i .i64 (65 : Int)], [.i .i64 (401 : Int)], [.i .i64 (1000000 : Int)], [.i .i64 (1000001 : Int)]] : Rw)
                chk (okR zr122 zo122 y346) <|
                let y347 := asS (resC y2 0 0)
                let y348 := asI (resC y332 0 0)
                some ([.agg [.i .i64 y46, .s y347, .s (⟨#[]⟩ : ByteArray), .i .i64 (asI (resC y346 0 0)), .i .i64 y348, .s (⟨#[]⟩ : ByteArray)]], [[.l l1, .i .i64 (asI (outC y346 0 1)), .i .i64 (asI (outC y346 0 2))]])
               else
                if y337 == (2 : Int) then
                 let y349 := asI (outC y336 0 1)
                 let y350 := asI (outC y336 0 2)
                 let y351 := t122 l1 y349 y350 ([[.i .i64 (-1 : Int)], [.i .i64 (25 : Int)], [.i .i64 (1001 : Int)], [.i .i64 (1000001 : Int)]] : Rw)
                 chk (okR zr122 zo122 y351) <|
                 let y352 := asS (resC y2 0 0)
                 let y353 := asI (resC y331 0 0)
                 some ([.agg [.i .i64 y46, .s y352, .s (⟨#[]⟩ : ByteArray), .i .i64 y353, .i .i64 (asI (resC y351 0 0)), .s (⟨#[]⟩ : ByteArray)]], [[.l l1, .i .i64 (asI (outC y351 0 1)), .i .i64 (asI (outC y351 0 2))]])
                else
                 if y337 == (3 : Int) then
                  chk (decide ((⟨#[]⟩ : ByteArray).size + (⟨#[121]⟩ : ByteArray).size ≤ lim)) <|
                  let y354 := asS (resC y2 0 0)
                  let y355 := asI (resC y331 0 0)
                  let y356 := asI (resC y332 0 0)
                  let y357 := asI (outC y336 0 1)
                  let y358 := asI (outC y336 0 2)
                  some ([.agg [.i .i64 y46, .s y354, .s (⟨#[]⟩ : ByteArray), .i .i64 y355, .i .i64 y356, .s ((⟨#[]⟩ : ByteArray) ++ (⟨#[121]⟩ : ByteArray))]], [[.l l1, .i .i64 y357, .i .i64 y358]])
                 else
                  let k13 := fun (n20 n21 : Int) (s17 s18 : ByteArray) =>
                   let y359 := asI (resC y331 0 0)
                   let y360 := asI (resC y332 0 0)
                   some ([.agg [.i .i64 y46, .s s17, .s s18, .i .i64 y359, .i .i64 y360, .s (⟨#[]⟩ : ByteArray)]], [[.l l1, .i .i64 n20, .i .i64 n21]])
                  if y337 == (4 : Int) then
                   let y361 := asI (outC y336 0 1)
                   let y362 := asI (outC y336 0 2)
                   let y363 := t129 l1 y361 y362 ([[.s (⟨#[]⟩ : ByteArray)], [.s (⟨#[47, 122]⟩ : ByteArray)], [.s (⟨#[98, 97, 100, 32, 112, 97, 116, 104]⟩ : ByteArray)], [.s (⟨#[47, 47]⟩ : ByteArray)]] : Rw)
                   chk (okR zr129 zo129 y363) <|
                   let y364 := asS (resC y2 0 0)
                   k13 (asI (outC y363 0 1)) (asI (outC y363 0 2)) y364 (asS (resC y363 0 0))
                  else
                   let y365 := asI (outC y336 0 1)
                   let y366 := asI (outC y336 0 2)
                   let y367 := t130 l1 y365 y366
                   chk (okR zr130 zo130 y367) <|
                   k13 (asI (outC y367 0 1)) (asI (outC y367 0 2)) (asS (resC y367 0 0)) (⟨#[]⟩ : ByteArray)
             else
              let y368 := asS (resC y2 0 0)
              let y369 := asI (resC y331 0 0)
              let y370 := asI (resC y332 0 0)
              let y371 := asI (outC y333 0 1)
              let y372 := asI (outC y333 0 2)
              some ([.agg [.i .i64 y46, .s y368, .s (⟨#[]⟩ : ByteArray), .i .i64 y369, .i .i64 y370, .s (⟨#[]⟩ : ByteArray)]], [[.l l1, .i .i64 y371, .i .i64 y372]])
            else
             if y46 == (17 : Int) then
              let y373 := asI (outC y2 0 1)
              let y374 := asI (outC y2 0 2)
              let y375 := t105 l1 y373 y374 (8 : Int)
              chk (okR zr105 zo105 y375) <|
              let y376 := t108 l1 (asI (outC y375 0 1)) (asI (outC y375 0 2)) (25 : Int)
              chk (okR zr108 zo108 y376) <|
              if asB (resC y376 0 0) then
               let y377 := asI (outC y376 0 1)
               let y378 := asI (outC y376 0 2)
               let y379 := t105 l1 y377 y378 (6 : Int)
               chk (okR zr105 zo105 y379) <|
               let y380 := asI (resC y379 0 0)
               if y380 == (0 : Int) then
                let y381 := asI (outC y379 0 1)
                let y382 := asI (outC y379 0 2)
                let y383 := t122 l1 y381 y382 ([[.i .i64 (-1 : Int)], [.i .i64 (0 : Int)], [.i .i64 (21 : Int)], [.i .i64 (22 : Int)], [.i .i64 (23 : Int)]] : Rw)
                chk (okR zr122 zo122 y383) <|
                let y384 := asS (resC y2 0 0)
                let y385 := asI (resC y375 0 0)
                some ([.agg [.i .i64 (asI (resC y383 0 0)), .s y384, .s (⟨#[]⟩ : ByteArray), .i .i64 y385, .i .i64 (0 : Int), .s (⟨#[]⟩ : ByteArray)]], [[.l l1, .i .i64 (asI (outC y383 0 1)), .i .i64 (asI (outC y383 0 2))]])
               else
                if y380 == (1 : Int) then
                 let y386 := asI (outC y379 0 1)
                 let y387 := asI (outC y379 0 2)
                 let y388 := t122 l1 y386 y387 ([[.i .i64 (-1 : Int)], [.i .i64 (2048 : Int)], [.i .i64 (65 : Int)], [.i .i64 (401 : Int)], [.i .i64 (1000000 : Int)], [.i .i64 (1000001 : Int)]] : Rw)
                 chk (okR zr122 zo122 y388) <|
                 let y389 := asS (resC y2 0 0)
                 some ([.agg [.i .i64 y46, .s y389, .s (⟨#[]⟩ : ByteArray), .i .i64 (asI (resC y388 0 0)), .i .i64 (0 : Int), .s (⟨#[]⟩ : ByteArray)]], [[.l l1, .i .i64 (asI (outC y388 0 1)), .i .i64 (asI (outC y388 0 2))]])
                else
                 if y380 == (2 : Int) then
                  let y390 := asI (outC y379 0 1)
                  let y391 := asI (outC y379 0 2)
                  let y392 := t122 l1 y390 y391 ([[.i .i64 (-1 : Int)], [.i .i64 (25 : Int)], [.i .i64 (1001 : Int)], [.i .i64 (1000001 : Int)]] : Rw)
                  chk (okR zr122 zo122 y392) <|
                  let y393 := asS (resC y2 0 0)
                  let y394 := asI (resC y375 0 0)
                  some ([.agg [.i .i64 y46, .s y393, .s (⟨#[]⟩ : ByteArray), .i .i64 y394, .i .i64 (asI (resC y392 0 0)), .s (⟨#[]⟩ : ByteArray)]], [[.l l1, .i .i64 (asI (outC y392 0 1)), .i .i64 (asI (outC y392 0 2))]])
                 else
                  if y380 == (3 : Int) then
                   chk (decide ((⟨#[]⟩ : ByteArray).size + (⟨#[121]⟩ : ByteArray).size ≤ lim)) <|
                   let y395 := asS (resC y2 0 0)
                   let y396 := asI (resC y375 0 0)
                   let y397 := asI (outC y379 0 1)
                   let y398 := asI (outC y379 0 2)
                   some ([.agg [.i .i64 y46, .s y395, .s (⟨#[]⟩ : ByteArray), .i .i64 y396, .i .i64 (0 : Int), .s ((⟨#[]⟩ : ByteArray) ++ (⟨#[121]⟩ : ByteArray))]], [[.l l1, .i .i64 y397, .i .i64 y398]])
                  else
                   let k14 := fun (n22 n23 : Int) (s19 s20 : ByteArray) =>
                    let y399 := asI (resC y375 0 0)
                    some ([.agg [.i .i64 y46, .s s19, .s s20, .i .i64 y399, .i .i64 (0 : Int), .s (⟨#[]⟩ : ByteArray)]], [[.l l1, .i .i64 n22, .i .i64 n23]])
                   if y380 == (4 : Int) then
                    let y400 := asI (outC y379 0 1)
                    let y401 := asI (outC y379 0 2)
                    let y402 := t129 l1 y400 y401 ([[.s (⟨#[]⟩ : ByteArray)], [.s (⟨#[47, 122]⟩ : ByteArray)], [.s (⟨#[98, 97, 100, 32, 112, 97, 116, 104]⟩ : ByteArray)], [.s (⟨#[47, 47]⟩ : ByteArray)]] : Rw)
                    chk (okR zr129 zo129 y402) <|
                    let y403 := asS (resC y2 0 0)
                    k14 (asI (outC y402 0 1)) (asI (outC y402 0 2)) y403 (asS (resC y402 0 0))
                   else
                    let y404 := asI (outC y379 0 1)
                    let y405 := asI (outC y379 0 2)
                    let y406 := t130 l1 y404 y405
                    chk (okR zr130 zo130 y406) <|
                    k14 (asI (outC y406 0 1)) (asI (outC y406 0 2)) (asS (resC y406 0 0)) (⟨#[]⟩ : ByteArray)
              else
               let y407 := asS (resC y2 0 0)
               let y408 := asI (resC y375 0 0)
               let y409 := asI (outC y376 0 1)
               let y410 := asI (outC y376 0 2)
               some ([.agg [.i .i64 y46, .s y407, .s (⟨#[]⟩ : ByteArray), .i .i64 y408, .i .i64 (0 : Int), .s (⟨#[]⟩ : ByteArray)]], [[.l l1, .i .i64 y409, .i .i64 y410]])
             else
              let k4 := fun (n24 n25 n26 n27 : Int) =>
               let y411 := t108 l1 n24 n25 (25 : Int)
               chk (okR zr108 zo108 y411) <|
               if asB (resC y411 0 0) then
                let y412 := asI (outC y411 0 1)
                let y413 := asI (outC y411 0 2)
                let y414 := t105 l1 y412 y413 (6 : Int)
                chk (okR zr105 zo105 y414) <|
                let y415 := asI (resC y414 0 0)
                if y415 == (0 : Int) then
                 let y416 := asI (outC y414 0 1)
                 let y417 := asI (outC y414 0 2)
                 let y418 := t122 l1 y416 y417 ([[.i .i64 (-1 : Int)], [.i .i64 (0 : Int)], [.i .i64 (21 : Int)], [.i .i64 (22 : Int)], [.i .i64 (23 : Int)]] : Rw)
                 chk (okR zr122 zo122 y418) <|
                 let y419 := asS (resC y2 0 0)
                 some ([.agg [.i .i64 (asI (resC y418 0 0)), .s y419, .s (⟨#[]⟩ : ByteArray), .i .i64 n26, .i .i64 n27, .s (⟨#[]⟩ : ByteArray)]], [[.l l1, .i .i64 (asI (outC y418 0 1)), .i .i64 (asI (outC y418 0 2))]])
                else
                 if y415 == (1 : Int) then
                  let y420 := asI (outC y414 0 1)
                  let y421 := asI (outC y414 0 2)
                  let y422 := t122 l1 y420 y421 ([[.i .i64 (-1 : Int)], [.i .i64 (2048 : Int)], [.i .i64 (65 : Int)], [.i .i64 (401 : Int)], [.i .i64 (1000000 : Int)], [.i .i64 (1000001 : Int)]] : Rw)
                  chk (okR zr122 zo122 y422) <|
                  let y423 := asS (resC y2 0 0)
                  some ([.agg [.i .i64 y46, .s y423, .s (⟨#[]⟩ : ByteArray), .i .i64 (asI (resC y422 0 0)), .i .i64 n27, .s (⟨#[]⟩ : ByteArray)]], [[.l l1, .i .i64 (asI (outC y422 0 1)), .i .i64 (asI (outC y422 0 2))]])
                 else
                  if y415 == (2 : Int) then
                   let y424 := asI (outC y414 0 1)
                   let y425 := asI (outC y414 0 2)
                   let y426 := t122 l1 y424 y425 ([[.i .i64 (-1 : Int)], [.i .i64 (25 : Int)], [.i .i64 (1001 : Int)], [.i .i64 (1000001 : Int)]] : Rw)
                   chk (okR zr122 zo122 y426) <|
                   let y427 := asS (resC y2 0 0)
                   some ([.agg [.i .i64 y46, .s y427, .s (⟨#[]⟩ : ByteArray), .i .i64 n26, .i .i64 (asI (resC y426 0 0)), .s (⟨#[]⟩ : ByteArray)]], [[.l l1, .i .i64 (asI (outC y426 0 1)), .i .i64 (asI (outC y426 0 2))]])
                  else
                   if y415 == (3 : Int) then
                    chk (decide ((⟨#[]⟩ : ByteArray).size + (⟨#[121]⟩ : ByteArray).size ≤ lim)) <|
                    let y428 := asS (resC y2 0 0)
                    let y429 := asI (outC y414 0 1)
                    let y430 := asI (outC y414 0 2)
                    some ([.agg [.i .i64 y46, .s y428, .s (⟨#[]⟩ : ByteArray), .i .i64 n26, .i .i64 n27, .s ((⟨#[]⟩ : ByteArray) ++ (⟨#[121]⟩ : ByteArray))]], [[.l l1, .i .i64 y429, .i .i64 y430]])
                   else
                    let k15 := fun (n28 n29 : Int) (s21 s22 : ByteArray) =>
                     some ([.agg [.i .i64 y46, .s s21, .s s22, .i .i64 n26, .i .i64 n27, .s (⟨#[]⟩ : ByteArray)]], [[.l l1, .i .i64 n28, .i .i64 n29]])
                    if y415 == (4 : Int) then
                     let y431 := asI (outC y414 0 1)
                     let y432 := asI (outC y414 0 2)
                     let y433 := t129 l1 y431 y432 ([[.s (⟨#[]⟩ : ByteArray)], [.s (⟨#[47, 122]⟩ : ByteArray)], [.s (⟨#[98, 97, 100, 32, 112, 97, 116, 104]⟩ : ByteArray)], [.s (⟨#[47, 47]⟩ : ByteArray)]] : Rw)
                     chk (okR zr129 zo129 y433) <|
                     let y434 := asS (resC y2 0 0)
                     k15 (asI (outC y433 0 1)) (asI (outC y433 0 2)) y434 (asS (resC y433 0 0))
                    else
                     let y435 := asI (outC y414 0 1)
                     let y436 := asI (outC y414 0 2)
                     let y437 := t130 l1 y435 y436
                     chk (okR zr130 zo130 y437) <|
                     k15 (asI (outC y437 0 1)) (asI (outC y437 0 2)) (asS (resC y437 0 0)) (⟨#[]⟩ : ByteArray)
               else
                let y438 := asS (resC y2 0 0)
                let y439 := asI (outC y411 0 1)
                let y440 := asI (outC y411 0 2)
                some ([.agg [.i .i64 y46, .s y438, .s (⟨#[]⟩ : ByteArray), .i .i64 n26, .i .i64 n27, .s (⟨#[]⟩ : ByteArray)]], [[.l l1, .i .i64 y439, .i .i64 y440]])
              if y46 == (19 : Int) then
               let y441 := asI (outC y2 0 1)
               let y442 := asI (outC y2 0 2)
               let y443 := t122 l1 y441 y442 ([[.i .i64 (0 : Int)], [.i .i64 (0 : Int)], [.i .i64 (20 : Int)], [.i .i64 (60 : Int)], [.i .i64 (200 : Int)]] : Rw)
               chk (okR zr122 zo122 y443) <|
               let y444 := t122 l1 (asI (outC y443 0 1)) (asI (outC y443 0 2)) ([[.i .i64 (0 : Int)], [.i .i64 (0 : Int)], [.i .i64 (2 : Int)], [.i .i64 (5 : Int)], [.i .i64 (10 : Int)]] : Rw)
               chk (okR zr122 zo122 y444) <|
               k4 (asI (outC y444 0 1)) (asI (outC y444 0 2)) (asI (resC y443 0 0)) (asI (resC y444 0 0))
              else
               let y445 := asI (outC y2 0 1)
               let y446 := asI (outC y2 0 2)
               k4 y445 y446 (0 : Int) (0 : Int)
        let y447 := y46 == (9 : Int)
        if y447 then
         k3 y447
        else
         k3 (y46 == (12 : Int))
  let y448 := asI (resC y1 0 0)
  let y449 := y448 == (1 : Int)
  if y449 then
   k2 y449
  else
   let k1 := fun (b3 : Bool) =>
    k2 b3
   let y450 := y448 == (3 : Int)
   if y450 then
    k1 y450
   else
    k1 (y448 == (15 : Int))
def t126 : Y126 := ta126 t105 t108 t109 t122 t128 t129 t130
def zr126 : List DV := [.agg [.i .i64 0, .s ⟨#[]⟩, .s ⟨#[]⟩, .i .i64 0, .i .i64 0, .s ⟨#[]⟩]]
def zo126 : Rw := [[.l [], .i .i64 0, .i .i64 0]]
def A126 : List TA := [.ptr [.l, .i .i64, .i .i64], .agg [.i .i64, .l]]
abbrev Y123 := Rw → Int → Int → Rs
def ta123 (t126 : Y126) (t127 : Y127) (l1 : Rw) (n1 n2 : Int) : Rs :=
  chk (okR zr127 zo127 t127) <|
  let y1 := t126 l1 n1 n2 (asI (resC t127 0 0)) (asL (resC t127 0 1))
  chk (okR zr126 zo126 y1) <|
  some ([.agg [.i .i64 (asI (resC y1 0 0)), .s (asS (resC y1 0 1)), .s (asS (resC y1 0 2)), .i .i64 (asI (resC y1 0 3)), .i .i64 (asI (resC y1 0 4)), .s (asS (resC y1 0 5))]], [[.l l1, .i .i64 (asI (outC y1 0 1)), .i .i64 (asI (outC y1 0 2))]])
def t123 : Y123 := ta123 t126 t127
def zr123 : List DV := [.agg [.i .i64 0, .s ⟨#[]⟩, .s ⟨#[]⟩, .i .i64 0, .i .i64 0, .s ⟨#[]⟩]]
def zo123 : Rw := [[.l [], .i .i64 0, .i .i64 0]]
def A123 : List TA := [.ptr [.l, .i .i64, .i .i64]]
abbrev Y64 := Int → Rs
def t64 (n1 : Int) : Rs :=
  some ([.one (.b ((decide (n1 ≥ (0 : Int))) && (decide (n1 < (3 : Int)))))], [])
def zr64 : List DV := [.one (.b false)]
def zo64 : Rw := []
def A64 : List TA := [.one (.i .i64)]
abbrev Y60 := Int → Int → Int → Rs
def t60 (n1 n2 n3 : Int) : Rs :=
  some ([.one (.b ((decide (n1 ≥ n2)) && (decide (n1 ≤ n3))))], [])
def zr60 : List DV := [.one (.b false)]
def zo60 : Rw := []
def A60 : List TA := [.one (.i .i64), .one (.i .i64), .one (.i .i64)]
abbrev Y61 := Int → ByteArray → ByteArray → Int → Int → ByteArray → Rs
def ta61 (t60 : Y60) (n1 : Int) (s1 s2 : ByteArray) (n2 n3 : Int) (s3 : ByteArray) : Rs :=
  let y1 := t60 n1 (1 : Int) (22 : Int)
  chk (okR zr60 zo60 y1) <|
  let y2 := t60 n2 (-1000000 : Int) (1000000 : Int)
  let y3 := (((!(asB (resC y1 0 0))) || (decide ((s1.size : Int) > (60 : Int)))) || (decide ((s2.size : Int) > (60 : Int)))) || (decide ((s3.size : Int) > (64 : Int)))
  chk ((okR zr60 zo60 y2) || !(!y3)) <|
  let y4 := t60 n3 (-1000000 : Int) (1000000 : Int)
  let y5 := y3 || (!(asB (resC y2 0 0)))
  chk ((okR zr60 zo60 y4) || !(!y5)) <|
  if y5 || (!(asB (resC y4 0 0))) then
   some ([.one (.b false)], [])
  else
   if (((!(s2.toList == (⟨#[]⟩ : ByteArray).toList)) && (n1 != (9 : Int))) && (n1 != (10 : Int))) && (n1 != (12 : Int)) then
    some ([.one (.b false)], [])
   else
    some ([.one (.b (((s3.toList == (⟨#[]⟩ : ByteArray).toList) || (n1 == (5 : Int))) || (n1 == (6 : Int))))], [])
def t61 : Y61 := ta61 t60
def zr61 : List DV := [.one (.b false)]
def zo61 : Rw := []
def A61 : List TA := [.agg [.i .i64, .s, .s, .i .i64, .i .i64, .s]]
abbrev Y20 := Int → Int → Int → Bool → Int → ByteArray → ByteArray → Int → Int → ByteArray → Int → Rs
def ta20 (t60 : Y60) (t61 : Y61) (t64 : Y64) (n1 n2 n3 : Int) (b1 : Bool) (n4 : Int) (s1 s2 : ByteArray) (n5 n6 : Int) (s3 : ByteArray) (n7 : Int) : Rs :=
  chk (okR zr64 zo64 (t64 n1)) <|
  let y1 := t60 n2 (1 : Int) (3 : Int)
  let y2 := !(asB (resC (t64 n1) 0 0))
  chk ((okR zr60 zo60 y1) || !(!y2)) <|
  let y3 := t60 n3 (0 : Int) (1000000 : Int)
  let y4 := y2 || (!(asB (resC y1 0 0)))
  chk ((okR zr60 zo60 y3) || !(!y4)) <|
  let y5 := t60 n7 (0 : Int) (1000000 : Int)
  let y6 := y4 || (!(asB (resC y3 0 0)))
  chk ((okR zr60 zo60 y5) || !(!y6)) <|
  if y6 || (!(asB (resC y5 0 0))) then
   some ([.one (.b false)], [])
  else
   if b1 then
    let y7 := t61 n4 s1 s2 n5 n6 s3
    let y8 := decide (n3 ≥ (1 : Int))
    chk ((okR zr61 zo61 y7) || !y8) <|
    some ([.one (.b (y8 && (asB (resC y7 0 0))))], [])
   else
    some ([.one (.b (((n4 == (0 : Int)) && ((s1.toList == (⟨#[]⟩ : ByteArray).toList) && ((s2.toList == (⟨#[]⟩ : ByteArray).toList) && ((n5 == (0 : Int)) && ((n6 == (0 : Int)) && ((s3.toList == (⟨#[]⟩ : ByteArray).toList) && true)))))) && (n7 == (0 : Int))))], [])
def t20 : Y20 := ta20 t60 t61 t64
def zr20 : List DV := [.one (.b false)]
def zo20 : Rw := []
def A20 : List TA := [.agg [.i .i64, .i .i64, .i .i64, .b, .i .i64, .s, .s, .i .i64, .i .i64, .s, .i .i64]]
abbrev Y24 := Int → Int → Int → Bool → Int → ByteArray → ByteArray → Int → Int → ByteArray → Int → Int → ByteArray → ByteArray → Int → Int → ByteArray → Int → Rs
def ta24 (t20 : Y20) (t60 : Y60) (t61 : Y61) (n1 n2 n3 : Int) (b1 : Bool) (n4 : Int) (s1 s2 : ByteArray) (n5 n6 : Int) (s3 : ByteArray) (n7 n8 : Int) (s4 s5 : ByteArray) (n9 n10 : Int) (s6 : ByteArray) (n11 : Int) : Rs :=
  let y1 := t20 n1 n2 n3 b1 n4 s1 s2 n5 n6 s3 n7
  chk (okR zr20 zo20 y1) <|
  if !(asB (resC y1 0 0)) then
   some ([.agg [.i .i64 (0 : Int), .i .i64 (0 : Int), .i .i64 (0 : Int), .b false, .i .i64 (0 : Int), .s (⟨#[]⟩ : ByteArray), .s (⟨#[]⟩ : ByteArray), .i .i64 (0 : Int), .i .i64 (0 : Int), .s (⟨#[]⟩ : ByteArray), .i .i64 (0 : Int)], .one (.b false)], [])
  else
   let y2 := t61 n8 s4 s5 n9 n10 s6
   chk ((okR zr61 zo61 y2) || !(!b1)) <|
   let y3 := t60 n11 (0 : Int) (1000000 : Int)
   let y4 := (b1 || (!(asB (resC y2 0 0)))) || (decide (n3 ≥ (1000000 : Int)))
   chk ((okR zr60 zo60 y3) || !(!y4)) <|
   if y4 || (!(asB (resC y3 0 0))) then
    some ([.agg [.i .i64 n1, .i .i64 n2, .i .i64 n3, .b b1, .i .i64 n4, .s s1, .s s2, .i .i64 n5, .i .i64 n6, .s s3, .i .i64 n7], .one (.b false)], [])
   else
    some ([.agg [.i .i64 n1, .i .i64 n2, .i .i64 (w64 (n3 + (1 : Int))), .b true, .i .i64 n8, .s s4, .s s5, .i .i64 n9, .i .i64 n10, .s s6, .i .i64 n11], .one (.b true)], [])
def t24 : Y24 := ta24 t20 t60 t61
def zr24 : List DV := [.agg [.i .i64 0, .i .i64 0, .i .i64 0, .b false, .i .i64 0, .s ⟨#[]⟩, .s ⟨#[]⟩, .i .i64 0, .i .i64 0, .s ⟨#[]⟩, .i .i64 0], .one (.b false)]
def zo24 : Rw := []
def A24 : List TA := [.agg [.i .i64, .i .i64, .i .i64, .b, .i .i64, .s, .s, .i .i64, .i .i64, .s, .i .i64], .agg [.i .i64, .s, .s, .i .i64, .i .i64, .s], .one (.i .i64)]
abbrev Y104 := Rw → Int → Int → Rs
def ta104 (t24 : Y24) (t105 : Y105) (t108 : Y108) (t122 : Y122) (t123 : Y123) (l1 : Rw) (n1 n2 : Int) : Rs :=
  let y1 := t105 l1 n1 n2 (3 : Int)
  chk (okR zr105 zo105 y1) <|
  let y2 := t105 l1 (asI (outC y1 0 1)) (asI (outC y1 0 2)) (3 : Int)
  chk (okR zr105 zo105 y2) <|
  let y3 := t105 l1 (asI (outC y2 0 1)) (asI (outC y2 0 2)) (5 : Int)
  chk (okR zr105 zo105 y3) <|
  let y4 := t108 l1 (asI (outC y3 0 1)) (asI (outC y3 0 2)) (3 : Int)
  chk (okR zr108 zo108 y4) <|
  if !(asB (resC y4 0 0)) then
   let y5 := asI (outC y4 0 1)
   let y6 := asI (outC y4 0 2)
   let y7 := t123 l1 y5 y6
   chk (okR zr123 zo123 y7) <|
   let y8 := t105 l1 (asI (outC y7 0 1)) (asI (outC y7 0 2)) (50 : Int)
   chk (okR zr105 zo105 y8) <|
   let y9 := asI (resC y1 0 0)
   let y10 := w64 ((1 : Int) + (asI (resC y2 0 0)))
   let y11 := asI (resC y3 0 0)
   let y12 := t24 y9 y10 y11 false (0 : Int) (⟨#[]⟩ : ByteArray) (⟨#[]⟩ : ByteArray) (0 : Int) (0 : Int) (⟨#[]⟩ : ByteArray) (0 : Int) (asI (resC y7 0 0)) (asS (resC y7 0 1)) (asS (resC y7 0 2)) (asI (resC y7 0 3)) (asI (resC y7 0 4)) (asS (resC y7 0 5)) (asI (resC y8 0 0))
   chk (okR zr24 zo24 y12) <|
   let k1 := fun (n3 n4 n5 : Int) (b1 : Bool) (n6 : Int) (s1 s2 : ByteArray) (n7 n8 : Int) (s3 : ByteArray) (n9 : Int) =>
    let y13 := t108 l1 (asI (outC y8 0 1)) (asI (outC y8 0 2)) (10 : Int)
    chk (okR zr108 zo108 y13) <|
    if asB (resC y13 0 0) then
     let y14 := asI (outC y13 0 1)
     let y15 := asI (outC y13 0 2)
     let y16 := t105 l1 y14 y15 (5 : Int)
     chk (okR zr105 zo105 y16) <|
     let y17 := asI (resC y16 0 0)
     if y17 == (0 : Int) then
      let y18 := asI (outC y16 0 1)
      let y19 := asI (outC y16 0 2)
      let y20 := t122 l1 y18 y19 ([[.i .i64 (-1 : Int)], [.i .i64 (0 : Int)], [.i .i64 (4 : Int)]] : Rw)
      chk (okR zr122 zo122 y20) <|
      some ([.agg [.i .i64 n3, .i .i64 (asI (resC y20 0 0)), .i .i64 n5, .b b1, .i .i64 n6, .s s1, .s s2, .i .i64 n7, .i .i64 n8, .s s3, .i .i64 n9]], [[.l l1, .i .i64 (asI (outC y20 0 1)), .i .i64 (asI (outC y20 0 2))]])
     else
      if y17 == (1 : Int) then
       let y21 := asI (outC y16 0 1)
       let y22 := asI (outC y16 0 2)
       let y23 := t122 l1 y21 y22 ([[.i .i64 (-1 : Int)], [.i .i64 (0 : Int)], [.i .i64 (1000000 : Int)], [.i .i64 (1000001 : Int)]] : Rw)
       chk (okR zr122 zo122 y23) <|
       some ([.agg [.i .i64 n3, .i .i64 n4, .i .i64 (asI (resC y23 0 0)), .b b1, .i .i64 n6, .s s1, .s s2, .i .i64 n7, .i .i64 n8, .s s3, .i .i64 n9]], [[.l l1, .i .i64 (asI (outC y23 0 1)), .i .i64 (asI (outC y23 0 2))]])
      else
       if y17 == (2 : Int) then
        let y24 := asI (outC y16 0 1)
        let y25 := asI (outC y16 0 2)
        some ([.agg [.i .i64 n3, .i .i64 n4, .i .i64 n5, .b (!b1), .i .i64 n6, .s s1, .s s2, .i .i64 n7, .i .i64 n8, .s s3, .i .i64 n9]], [[.l l1, .i .i64 y24, .i .i64 y25]])
       else
        let k2 := fun (n10 n11 n12 n13 : Int) =>
         some ([.agg [.i .i64 n12, .i .i64 n4, .i .i64 n5, .b b1, .i .i64 n6, .s s1, .s s2, .i .i64 n7, .i .i64 n8, .s s3, .i .i64 n13]], [[.l l1, .i .i64 n10, .i .i64 n11]])
        if y17 == (3 : Int) then
         let y26 := asI (outC y16 0 1)
         let y27 := asI (outC y16 0 2)
         let y28 := t122 l1 y26 y27 ([[.i .i64 (-1 : Int)], [.i .i64 (1 : Int)], [.i .i64 (1000000 : Int)], [.i .i64 (1000001 : Int)]] : Rw)
         chk (okR zr122 zo122 y28) <|
         k2 (asI (outC y28 0 1)) (asI (outC y28 0 2)) n3 (asI (resC y28 0 0))
        else
         let y29 := asI (outC y16 0 1)
         let y30 := asI (outC y16 0 2)
         let y31 := t122 l1 y29 y30 ([[.i .i64 (-1 : Int)], [.i .i64 (3 : Int)]] : Rw)
         chk (okR zr122 zo122 y31) <|
         k2 (asI (outC y31 0 1)) (asI (outC y31 0 2)) (asI (resC y31 0 0)) n9
    else
     let y32 := asI (outC y13 0 1)
     let y33 := asI (outC y13 0 2)
     some ([.agg [.i .i64 n3, .i .i64 n4, .i .i64 n5, .b b1, .i .i64 n6, .s s1, .s s2, .i .i64 n7, .i .i64 n8, .s s3, .i .i64 n9]], [[.l l1, .i .i64 y32, .i .i64 y33]])
   if asB (resC y12 1 0) then
    k1 (asI (resC y12 0 0)) (asI (resC y12 0 1)) (asI (resC y12 0 2)) (asB (resC y12 0 3)) (asI (resC y12 0 4)) (asS (resC y12 0 5)) (asS (resC y12 0 6)) (asI (resC y12 0 7)) (asI (resC y12 0 8)) (asS (resC y12 0 9)) (asI (resC y12 0 10))
   else
    k1 y9 y10 y11 false (0 : Int) (⟨#[]⟩ : ByteArray) (⟨#[]⟩ : ByteArray) (0 : Int) (0 : Int) (⟨#[]⟩ : ByteArray) (0 : Int)
  else
   let y34 := asI (outC y4 0 1)
   let y35 := asI (outC y4 0 2)
   let y36 := t108 l1 y34 y35 (10 : Int)
   chk (okR zr108 zo108 y36) <|
   if asB (resC y36 0 0) then
    let y37 := asI (outC y36 0 1)
    let y38 := asI (outC y36 0 2)
    let y39 := t105 l1 y37 y38 (5 : Int)
    chk (okR zr105 zo105 y39) <|
    let y40 := asI (resC y39 0 0)
    if y40 == (0 : Int) then
     let y41 := asI (outC y39 0 1)
     let y42 := asI (outC y39 0 2)
     let y43 := t122 l1 y41 y42 ([[.i .i64 (-1 : Int)], [.i .i64 (0 : Int)], [.i .i64 (4 : Int)]] : Rw)
     chk (okR zr122 zo122 y43) <|
     let y44 := asI (resC y1 0 0)
     let y45 := asI (resC y3 0 0)
     some ([.agg [.i .i64 y44, .i .i64 (asI (resC y43 0 0)), .i .i64 y45, .b false, .i .i64 (0 : Int), .s (⟨#[]⟩ : ByteArray), .s (⟨#[]⟩ : ByteArray), .i .i64 (0 : Int), .i .i64 (0 : Int), .s (⟨#[]⟩ : ByteArray), .i .i64 (0 : Int)]], [[.l l1, .i .i64 (asI (outC y43 0 1)), .i .i64 (asI (outC y43 0 2))]])
    else
     if y40 == (1 : Int) then
      let y46 := asI (outC y39 0 1)
      let y47 := asI (outC y39 0 2)
      let y48 := t122 l1 y46 y47 ([[.i .i64 (-1 : Int)], [.i .i64 (0 : Int)], [.i .i64 (1000000 : Int)], [.i .i64 (1000001 : Int)]] : Rw)
      chk (okR zr122 zo122 y48) <|
      let y49 := asI (resC y1 0 0)
      let y50 := w64 ((1 : Int) + (asI (resC y2 0 0)))
      some ([.agg [.i .i64 y49, .i .i64 y50, .i .i64 (asI (resC y48 0 0)), .b false, .i .i64 (0 : Int), .s (⟨#[]⟩ : ByteArray), .s (⟨#[]⟩ : ByteArray), .i .i64 (0 : Int), .i .i64 (0 : Int), .s (⟨#[]⟩ : ByteArray), .i .i64 (0 : Int)]], [[.l l1, .i .i64 (asI (outC y48 0 1)), .i .i64 (asI (outC y48 0 2))]])
     else
      if y40 == (2 : Int) then
       let y51 := asI (resC y1 0 0)
       let y52 := w64 ((1 : Int) + (asI (resC y2 0 0)))
       let y53 := asI (resC y3 0 0)
       let y54 := asI (outC y39 0 1)
       let y55 := asI (outC y39 0 2)
       some ([.agg [.i .i64 y51, .i .i64 y52, .i .i64 y53, .b true, .i .i64 (0 : Int), .s (⟨#[]⟩ : ByteArray), .s (⟨#[]⟩ : ByteArray), .i .i64 (0 : Int), .i .i64 (0 : Int), .s (⟨#[]⟩ : ByteArray), .i .i64 (0 : Int)]], [[.l l1, .i .i64 y54, .i .i64 y55]])
      else
       let k3 := fun (n14 n15 n16 n17 : Int) =>
        let y56 := w64 ((1 : Int) + (asI (resC y2 0 0)))
        let y57 := asI (resC y3 0 0)
        some ([.agg [.i .i64 n16, .i .i64 y56, .i .i64 y57, .b false, .i .i64 (0 : Int), .s (⟨#[]⟩ : ByteArray), .s (⟨#[]⟩ : ByteArray), .i .i64 (0 : Int), .i .i64 (0 : Int), .s (⟨#[]⟩ : ByteArray), .i .i64 n17]], [[.l l1, .i .i64 n14, .i .i64 n15]])
       if y40 == (3 : Int) then
        let y58 := asI (outC y39 0 1)
        let y59 := asI (outC y39 0 2)
        let y60 := t122 l1 y58 y59 ([[.i .i64 (-1 : Int)], [.i .i64 (1 : Int)], [.i .i64 (1000000 : Int)], [.i .i64 (1000001 : Int)]] : Rw)
        chk (okR zr122 zo122 y60) <|
        let y61 := asI (resC y1 0 0)
        k3 (asI (outC y60 0 1)) (asI (outC y60 0 2)) y61 (asI (resC y60 0 0))
       else
        let y62 := asI (outC y39 0 1)
        let y63 := asI (outC y39 0 2)
        let y64 := t122 l1 y62 y63 ([[.i .i64 (-1 : Int)], [.i .i64 (3 : Int)]] : Rw)
        chk (okR zr122 zo122 y64) <|
        k3 (asI (outC y64 0 1)) (asI (outC y64 0 2)) (asI (resC y64 0 0)) (0 : Int)
   else
    let y65 := asI (resC y1 0 0)
    let y66 := w64 ((1 : Int) + (asI (resC y2 0 0)))
    let y67 := asI (resC y3 0 0)
    let y68 := asI (outC y36 0 1)
    let y69 := asI (outC y36 0 2)
    some ([.agg [.i .i64 y65, .i .i64 y66, .i .i64 y67, .b false, .i .i64 (0 : Int), .s (⟨#[]⟩ : ByteArray), .s (⟨#[]⟩ : ByteArray), .i .i64 (0 : Int), .i .i64 (0 : Int), .s (⟨#[]⟩ : ByteArray), .i .i64 (0 : Int)]], [[.l l1, .i .i64 y68, .i .i64 y69]])
def t104 : Y104 := ta104 t24 t105 t108 t122 t123
def zr104 : List DV := [.agg [.i .i64 0, .i .i64 0, .i .i64 0, .b false, .i .i64 0, .s ⟨#[]⟩, .s ⟨#[]⟩, .i .i64 0, .i .i64 0, .s ⟨#[]⟩, .i .i64 0]]
def zo104 : Rw := [[.l [], .i .i64 0, .i .i64 0]]
def A104 : List TA := [.ptr [.l, .i .i64, .i .i64]]
abbrev Y89 := Int → Rs
def la89o1 (t60 : Y60) (s1 : ByteArray) (b1 : Bool) (q1 : Int → Bool → Rw → Rs) : Nat → Int → SV → Rw → Rs
  | 0, _, _, _ => none
  | m + 1, n1, v1, l1 =>
    let y1 := decide (n1 ≥ (128 : Int))
    if y1 then
     let y2 := ([[.i .u8 (IntKind.wrap .u8 (w64 ((128 : Int) + (n1.tmod (128 : Int)))))]] : Rw)
     chk ((flatR 1 y2) && decide (l1.length + y2.length ≤ lim)) <|
     la89o1 t60 s1 b1 q1 m (w64 (n1.tdiv (128 : Int))) (.d (.b y1)) (l1 ++ y2)
    else
     q1 n1 y1 l1
def ta89 (t60 : Y60) (n1 : Int) : Rs :=
  let y1 := t60 n1 (0 : Int) (562949953421311 : Int)
  chk (okR zr60 zo60 y1) <|
  let y2 := !(asB (resC y1 0 0))
  if y2 then
   some ([.one (.s (⟨#[]⟩ : ByteArray))], [])
  else
   la89o1 t60 (⟨#[]⟩ : ByteArray) y2
    (fun (n2 : Int) (b1 : Bool) (l1 : Rw) =>
     let y3 := ([[.i .u8 (IntKind.wrap .u8 n2)]] : Rw)
     chk ((flatR 1 y3) && decide (l1.length + y3.length ≤ lim)) <|
     let y4 := l1 ++ y3
     chk (isBytes y4) <|
     some ([.one (.s ⟨(bytesD y4).toArray⟩)], [])) KK n1 SV.undef ([] : Rw)
def t89 : Y89 := ta89 t60
def zr89 : List DV := [.one (.s ⟨#[]⟩)]
def zo89 : Rw := []
def A89 : List TA := [.one (.i .i64)]
abbrev Y107 := Rw → Int → Int → Rs
def la107o1 (t105 : Y105) (t108 : Y108) (t109 : Y109) (t122 : Y122) (n1 : Int) (b1 : Bool) (l1 : Rw) (n2 n3 n4 : Int) (s1 : ByteArray) (n5 : Int) (s2 : ByteArray) (l2 : Rw) (q1 : Bool → Rw → Rs) : Nat → SV → Rw → Rs
  | 0, _, _ => none
  | m + 1, v1, l3 =>
    let y1 := decide ((l3.length : Int) < n1)
    if y1 then
     let y2 := ([[.i .u8 (9 : Int)]] : Rw)
     chk ((flatR 1 y2) && decide (l3.length + y2.length ≤ lim)) <|
     la107o1 t105 t108 t109 t122 n1 b1 l1 n2 n3 n4 s1 n5 s2 l2 q1 m (.d (.b y1)) (l3 ++ y2)
    else
     q1 y1 l3
def ta107 (t105 : Y105) (t108 : Y108) (t109 : Y109) (t122 : Y122) (l1 : Rw) (n1 n2 : Int) : Rs :=
  let y1 := ([[.i .i64 (0 : Int)], [.i .i64 (0 : Int)], [.i .i64 (0 : Int)], [.i .i64 (2 : Int)], [.i .i64 (13 : Int)], [.i .i64 (200 : Int)], [.i .i64 (201 : Int)], [.i .i64 (-1 : Int)]] : Rw)
  let y2 := t122 l1 n1 n2 y1
  chk (okR zr122 zo122 y2) <|
  let y3 := t109 l1 (asI (outC y2 0 1)) (asI (outC y2 0 2)) (10 : Int)
  chk (okR zr109 zo109 y3) <|
  let y4 := t108 l1 (asI (outC y3 0 1)) (asI (outC y3 0 2)) (20 : Int)
  chk (okR zr108 zo108 y4) <|
  let y5 := asB (resC y4 0 0)
  if y5 then
   let y6 := asI (outC y4 0 1)
   let y7 := asI (outC y4 0 2)
   let y8 := t105 l1 y6 y7 (2 : Int)
   chk (okR zr105 zo105 y8) <|
   let y9 := asI (outC y8 0 1)
   let y10 := asI (outC y8 0 2)
   let y11 := asI (resC y2 0 0)
   let y12 := asS (resC y3 0 0)
   la107o1 t105 t108 t109 t122 (w64 ((400 : Int) + (asI (resC y8 0 0)))) y5 l1 y9 y10 (0 : Int) (⟨#[]⟩ : ByteArray) y11 y12 y1
    (fun (b1 : Bool) (l2 : Rw) =>
     chk (isBytes l2) <|
     some ([.agg [.i .i64 y11, .s ⟨(bytesD l2).toArray⟩]], [[.l l1, .i .i64 y9, .i .i64 y10]])) KK SV.undef ([] : Rw)
  else
   let y13 := asI (resC y2 0 0)
   let y14 := asS (resC y3 0 0)
   let y15 := asI (outC y4 0 1)
   let y16 := asI (outC y4 0 2)
   some ([.agg [.i .i64 y13, .s y14]], [[.l l1, .i .i64 y15, .i .i64 y16]])
def t107 : Y107 := ta107 t105 t108 t109 t122
def zr107 : List DV := [.agg [.i .i64 0, .s ⟨#[]⟩]]
def zo107 : Rw := [[.l [], .i .i64 0, .i .i64 0]]
def A107 : List TA := [.ptr [.l, .i .i64, .i .i64]]
abbrev Y125 := Int → ByteArray → Rs
def ta125 (t60 : Y60) (n1 : Int) (s1 : ByteArray) : Rs :=
  let y1 := t60 n1 (0 : Int) (200 : Int)
  chk (okR zr60 zo60 y1) <|
  some ([.one (.b ((asB (resC y1 0 0)) && (decide ((s1.size : Int) ≤ (400 : Int)))))], [])
def t125 : Y125 := ta125 t60
def zr125 : List DV := [.one (.b false)]
def zo125 : Rw := []
def A125 : List TA := [.agg [.i .i64, .s]]
abbrev Y106 := Int → ByteArray → Rs
def ta106 (t89 : Y89) (t125 : Y125) (n1 : Int) (s1 : ByteArray) : Rs :=
  chk (okR zr125 zo125 (t125 n1 s1)) <|
  if !(asB (resC (t125 n1 s1) 0 0)) then
   some ([.one (.s (⟨#[]⟩ : ByteArray))], [])
  else
   chk (okR zr89 zo89 (t89 n1)) <|
   let y1 := asS (resC (t89 n1) 0 0)
   chk (decide (y1.size + s1.size ≤ lim)) <|
   some ([.one (.s (y1 ++ s1))], [])
def t106 : Y106 := ta106 t89 t125
def zr106 : List DV := [.one (.s ⟨#[]⟩)]
def zo106 : Rw := []
def A106 : List TA := [.agg [.i .i64, .s]]
abbrev Y59 := Rw → Rs
def ta59 (t89 : Y89) (t102 : Y102) (t103 : Y103) (t104 : Y104) (t105 : Y105) (t106 : Y106) (t107 : Y107) (t108 : Y108) (t109 : Y109) (l1 : Rw) : Rs :=
  chk (okR zr102 zo102 (t102 l1)) <|
  let y1 := asL (resC (t102 l1) 0 0)
  let y2 := t103 y1 (asI (resC (t102 l1) 0 1)) (asI (resC (t102 l1) 0 2))
  chk (okR zr103 zo103 y2) <|
  let y3 := t104 y1 (asI (outC y2 0 1)) (asI (outC y2 0 2))
  chk (okR zr104 zo104 y3) <|
  let y4 := t105 y1 (asI (outC y3 0 1)) (asI (outC y3 0 2)) (3 : Int)
  chk (okR zr105 zo105 y4) <|
  let y5 := t105 y1 (asI (outC y4 0 1)) (asI (outC y4 0 2)) (50 : Int)
  chk (okR zr105 zo105 y5) <|
  let y6 := t89 (w64 ((1 : Int) + (asI (resC y5 0 0))))
  chk (okR zr89 zo89 y6) <|
  let y7 := t107 y1 (asI (outC y5 0 1)) (asI (outC y5 0 2))
  chk (okR zr107 zo107 y7) <|
  let y8 := t106 (asI (resC y7 0 0)) (asS (resC y7 0 1))
  chk (okR zr106 zo106 y8) <|
  let y9 := asS (resC y6 0 0)
  let y10 := asS (resC y8 0 0)
  chk (decide (y9.size + y10.size ≤ lim)) <|
  let y11 := t108 y1 (asI (outC y7 0 1)) (asI (outC y7 0 2)) (6 : Int)
  chk (okR zr108 zo108 y11) <|
  if asB (resC y11 0 0) then
   let y12 := t105 y1 (asI (outC y11 0 1)) (asI (outC y11 0 2)) (5 : Int)
   chk (okR zr105 zo105 y12) <|
   let y13 := asI (resC y12 0 0)
   if y13 == (0 : Int) then
    let y14 := asI (resC y3 0 0)
    let y15 := asI (resC y3 0 1)
    let y16 := asI (resC y3 0 2)
    let y17 := asB (resC y3 0 3)
    let y18 := asI (resC y3 0 4)
    let y19 := asS (resC y3 0 5)
    let y20 := asS (resC y3 0 6)
    let y21 := asI (resC y3 0 7)
    let y22 := asI (resC y3 0 8)
    let y23 := asS (resC y3 0 9)
    let y24 := asI (resC y3 0 10)
    let y25 := asI (resC y4 0 0)
    let y26 := y9 ++ y10
    let y27 := asI (resC y2 0 0)
    some ([.agg [.i .i64 y14, .i .i64 y15, .i .i64 y16, .b y17, .i .i64 y18, .s y19, .s y20, .i .i64 y21, .i .i64 y22, .s y23, .i .i64 y24], .agg [.i .i64 y14, .i .i64 y15, .i .i64 y25, .b false, .i .i64 y16, .s y26], .one (.i .i64 y27)], [])
   else
    if y13 == (1 : Int) then
     let y28 := asI (resC y3 0 0)
     let y29 := asI (resC y3 0 1)
     let y30 := asI (resC y3 0 2)
     let y31 := asB (resC y3 0 3)
     let y32 := asI (resC y3 0 4)
     let y33 := asS (resC y3 0 5)
     let y34 := asS (resC y3 0 6)
     let y35 := asI (resC y3 0 7)
     let y36 := asI (resC y3 0 8)
     let y37 := asS (resC y3 0 9)
     let y38 := asI (resC y3 0 10)
     let y39 := asI (resC y4 0 0)
     let y40 := y9 ++ y10
     let y41 := asI (resC y2 0 0)
     some ([.agg [.i .i64 y28, .i .i64 y29, .i .i64 y30, .b y31, .i .i64 y32, .s y33, .s y34, .i .i64 y35, .i .i64 y36, .s y37, .i .i64 y38], .agg [.i .i64 y28, .i .i64 y29, .i .i64 y39, .b true, .i .i64 (w64 (y30 + (1 : Int))), .s y40], .one (.i .i64 y41)], [])
    else
     if y13 == (2 : Int) then
      let y42 := asI (outC y12 0 1)
      let y43 := asI (outC y12 0 2)
      let y44 := t105 y1 y42 y43 (3 : Int)
      chk (okR zr105 zo105 y44) <|
      let y45 := asI (resC y3 0 0)
      let y46 := asI (resC y3 0 1)
      let y47 := asI (resC y3 0 2)
      let y48 := asB (resC y3 0 3)
      let y49 := asI (resC y3 0 4)
      let y50 := asS (resC y3 0 5)
      let y51 := asS (resC y3 0 6)
      let y52 := asI (resC y3 0 7)
      let y53 := asI (resC y3 0 8)
      let y54 := asS (resC y3 0 9)
      let y55 := asI (resC y3 0 10)
      let y56 := asI (resC y4 0 0)
      let y57 := y9 ++ y10
      let y58 := asI (resC y2 0 0)
      some ([.agg [.i .i64 y45, .i .i64 y46, .i .i64 y47, .b y48, .i .i64 y49, .s y50, .s y51, .i .i64 y52, .i .i64 y53, .s y54, .i .i64 y55], .agg [.i .i64 y45, .i .i64 (w64 ((1 : Int) + (asI (resC y44 0 0)))), .i .i64 y56, .b true, .i .i64 y47, .s y57], .one (.i .i64 y58)], [])
     else
      let k1 := fun (n1 : Int) (s1 : ByteArray) (n2 n3 : Int) =>
       let y59 := asI (resC y3 0 0)
       let y60 := asI (resC y3 0 1)
       let y61 := asI (resC y3 0 2)
       let y62 := asB (resC y3 0 3)
       let y63 := asI (resC y3 0 4)
       let y64 := asS (resC y3 0 5)
       let y65 := asS (resC y3 0 6)
       let y66 := asI (resC y3 0 7)
       let y67 := asI (resC y3 0 8)
       let y68 := asS (resC y3 0 9)
       let y69 := asI (resC y3 0 10)
       let y70 := asI (resC y4 0 0)
       let y71 := asI (resC y2 0 0)
       some ([.agg [.i .i64 y59, .i .i64 y60, .i .i64 y61, .b y62, .i .i64 y63, .s y64, .s y65, .i .i64 y66, .i .i64 y67, .s y68, .i .i64 y69], .agg [.i .i64 n1, .i .i64 y60, .i .i64 y70, .b true, .i .i64 y61, .s s1], .one (.i .i64 y71)], [])
      if y13 == (3 : Int) then
       let y72 := asI (outC y12 0 1)
       let y73 := asI (outC y12 0 2)
       let y74 := t109 y1 y72 y73 (4 : Int)
       chk (okR zr109 zo109 y74) <|
       let y75 := asI (resC y3 0 0)
       k1 y75 (asS (resC y74 0 0)) (asI (outC y74 0 1)) (asI (outC y74 0 2))
      else
       let y76 := asI (outC y12 0 1)
       let y77 := asI (outC y12 0 2)
       let y78 := t105 y1 y76 y77 (3 : Int)
       chk (okR zr105 zo105 y78) <|
       let y79 := y9 ++ y10
       k1 (asI (resC y78 0 0)) y79 (asI (outC y78 0 1)) (asI (outC y78 0 2))
  else
   let y80 := asI (resC y3 0 0)
   let y81 := asI (resC y3 0 1)
   let y82 := asI (resC y3 0 2)
   let y83 := asB (resC y3 0 3)
   let y84 := asI (resC y3 0 4)
   let y85 := asS (resC y3 0 5)
   let y86 := asS (resC y3 0 6)
   let y87 := asI (resC y3 0 7)
   let y88 := asI (resC y3 0 8)
   let y89 := asS (resC y3 0 9)
   let y90 := asI (resC y3 0 10)
   let y91 := asI (resC y4 0 0)
   let y92 := y9 ++ y10
   let y93 := asI (resC y2 0 0)
   some ([.agg [.i .i64 y80, .i .i64 y81, .i .i64 y82, .b y83, .i .i64 y84, .s y85, .s y86, .i .i64 y87, .i .i64 y88, .s y89, .i .i64 y90], .agg [.i .i64 y80, .i .i64 y81, .i .i64 y91, .b true, .i .i64 y82, .s y92], .one (.i .i64 y93)], [])
def t59 : Y59 := ta59 t89 t102 t103 t104 t105 t106 t107 t108 t109
def zr59 : List DV := [.agg [.i .i64 0, .i .i64 0, .i .i64 0, .b false, .i .i64 0, .s ⟨#[]⟩, .s ⟨#[]⟩, .i .i64 0, .i .i64 0, .s ⟨#[]⟩, .i .i64 0], .agg [.i .i64 0, .i .i64 0, .i .i64 0, .b false, .i .i64 0, .s ⟨#[]⟩], .one (.i .i64 0)]
def zo59 : Rw := []
def A59 : List TA := [.one (.l)]
abbrev Y62 := Int → Int → Int → Rs
def t62 (n1 n2 n3 : Int) : Rs :=
  some ([.one (.b ((decide (n1 ≥ n2)) && (decide (n1 ≤ n3))))], [])
def zr62 : List DV := [.one (.b false)]
def zo62 : Rw := []
def A62 : List TA := [.one (.i .i64), .one (.i .i64), .one (.i .i64)]
abbrev Y63 := Int → ByteArray → ByteArray → Int → Int → ByteArray → Rs
def ta63 (t62 : Y62) (n1 : Int) (s1 s2 : ByteArray) (n2 n3 : Int) (s3 : ByteArray) : Rs :=
  if ((!(((n1 == (9 : Int)) || (n1 == (10 : Int))) || (n1 == (12 : Int)))) && (!(s2.toList == (⟨#[]⟩ : ByteArray).toList))) || ((!((n1 == (5 : Int)) || (n1 == (6 : Int)))) && (!(s3.toList == (⟨#[]⟩ : ByteArray).toList))) then
   some ([.one (.b false)], [])
  else
   let y1 := t62 n1 (1 : Int) (22 : Int)
   chk (okR zr62 zo62 y1) <|
   let y2 := t62 n2 (-1000000 : Int) (1000000 : Int)
   let y3 := (((asB (resC y1 0 0)) && (decide ((s1.size : Int) ≤ (60 : Int)))) && (decide ((s2.size : Int) ≤ (60 : Int)))) && (decide ((s3.size : Int) ≤ (64 : Int)))
   chk ((okR zr62 zo62 y2) || !y3) <|
   let y4 := t62 n3 (-1000000 : Int) (1000000 : Int)
   let y5 := y3 && (asB (resC y2 0 0))
   chk ((okR zr62 zo62 y4) || !y5) <|
   some ([.one (.b (y5 && (asB (resC y4 0 0))))], [])
def t63 : Y63 := ta63 t62
def zr63 : List DV := [.one (.b false)]
def zo63 : Rw := []
def A63 : List TA := [.agg [.i .i64, .s, .s, .i .i64, .i .i64, .s]]
abbrev Y22 := Int → Int → Int → Bool → Int → ByteArray → ByteArray → Int → Int → ByteArray → Int → Rs
def ta22 (t62 : Y62) (t63 : Y63) (n1 n2 n3 : Int) (b1 : Bool) (n4 : Int) (s1 s2 : ByteArray) (n5 n6 : Int) (s3 : ByteArray) (n7 : Int) : Rs :=
  let y1 := t62 n1 (0 : Int) (2 : Int)
  chk (okR zr62 zo62 y1) <|
  let y2 := t62 n2 (1 : Int) (3 : Int)
  let y3 := !(asB (resC y1 0 0))
  chk ((okR zr62 zo62 y2) || !(!y3)) <|
  let y4 := t62 n3 (0 : Int) (1000000 : Int)
  let y5 := y3 || (!(asB (resC y2 0 0)))
  chk ((okR zr62 zo62 y4) || !(!y5)) <|
  let y6 := t62 n7 (0 : Int) (1000000 : Int)
  let y7 := y5 || (!(asB (resC y4 0 0)))
  chk ((okR zr62 zo62 y6) || !(!y7)) <|
  if y7 || (!(asB (resC y6 0 0))) then
   some ([.one (.b false)], [])
  else
   if b1 then
    let y8 := t63 n4 s1 s2 n5 n6 s3
    let y9 := decide (n3 ≥ (1 : Int))
    chk ((okR zr63 zo63 y8) || !y9) <|
    some ([.one (.b (y9 && (asB (resC y8 0 0))))], [])
   else
    some ([.one (.b (((n4 == (0 : Int)) && ((s1.toList == (⟨#[]⟩ : ByteArray).toList) && ((s2.toList == (⟨#[]⟩ : ByteArray).toList) && ((n5 == (0 : Int)) && ((n6 == (0 : Int)) && ((s3.toList == (⟨#[]⟩ : ByteArray).toList) && true)))))) && (n7 == (0 : Int))))], [])
def t22 : Y22 := ta22 t62 t63
def zr22 : List DV := [.one (.b false)]
def zo22 : Rw := []
def A22 : List TA := [.agg [.i .i64, .i .i64, .i .i64, .b, .i .i64, .s, .s, .i .i64, .i .i64, .s, .i .i64]]
abbrev Y86 := ByteArray → Rs
def l86o0 (s1 : ByteArray) (n1 n2 : Int) (q1 : Int → Int → Int → Int → Int → Bool → Bool → Bool → Rs) (q2 : Int → Int → SV → Bool → SV → Rs) : Nat → Int → Int → SV → SV → SV → Rs
  | 0, _, _, _, _, _ => none
  | m + 1, n3, n4, v1, v2, v3 =>
    let y1 := (decide (n4 < (s1.size : Int))) && (decide (n4 < (7 : Int)))
    if y1 then
     chk (decide (0 ≤ n4 ∧ n4 < s1.size)) <|
     let y2 := w64 ((7 : Int) * n4)
     chk (decide (0 ≤ y2)) <|
     let y3 := w64 ((s1.get! n4.toNat).toNat)
     let y4 := decide (y3 > (127 : Int))
     if y4 then
      let y5 := bitOr .i64 n3 (w64 ((bitAnd .i64 y3 (127 : Int)) * 2 ^ (min y2.toNat (IntKind.bits .i64))))
      l86o0 s1 n1 n2 q1 q2 m y5 (w64 (n4 + (1 : Int))) (.d (.i .i64 y3)) (.d (.b y1)) (.d (.b y4))
     else
      let y6 := (y3 == (0 : Int)) && (decide (n4 > (0 : Int)))
      if y6 then
       let y7 := bitOr .i64 n3 (w64 ((bitAnd .i64 y3 (127 : Int)) * 2 ^ (min y2.toNat (IntKind.bits .i64))))
       q1 (0 : Int) (0 : Int) y7 n4 y3 y1 y4 y6
      else
       let y8 := bitOr .i64 n3 (w64 ((bitAnd .i64 y3 (127 : Int)) * 2 ^ (min y2.toNat (IntKind.bits .i64))))
       q1 y8 (w64 (n4 + (1 : Int))) y8 n4 y3 y1 y4 y6
    else
     q2 n3 n4 (keepV [] v1) y1 (keepV [] v3)
def t86 (s1 : ByteArray) : Rs :=
  l86o0 s1 (0 : Int) (0 : Int)
   (fun (n1 n2 n3 n4 n5 : Int) (b1 b2 b3 : Bool) =>
    some ([.one (.i .i64 n1), .one (.i .i64 n2)], []))
   (fun (n6 n7 : Int) (v1 : SV) (b4 : Bool) (v2 : SV) =>
    some ([.one (.i .i64 (0 : Int)), .one (.i .i64 (0 : Int))], [])) KK (0 : Int) (0 : Int) SV.undef SV.undef SV.undef
def zr86 : List DV := [.one (.i .i64 0), .one (.i .i64 0)]
def zo86 : Rw := []
def A86 : List TA := [.one (.s)]
abbrev Y118 := Int → ByteArray → Rs
def ta118 (t62 : Y62) (n1 : Int) (s1 : ByteArray) : Rs :=
  let y1 := t62 n1 (0 : Int) (200 : Int)
  chk (okR zr62 zo62 y1) <|
  some ([.one (.b ((asB (resC y1 0 0)) && (decide ((s1.size : Int) ≤ (400 : Int)))))], [])
def t118 : Y118 := ta118 t62
def zr118 : List DV := [.one (.b false)]
def zo118 : Rw := []
def A118 : List TA := [.agg [.i .i64, .s]]
abbrev Y87 := ByteArray → Rs
def ta87 (t86 : Y86) (t118 : Y118) (s1 : ByteArray) : Rs :=
  chk (okR zr86 zo86 (t86 s1)) <|
  let y1 := asI (resC (t86 s1) 1 0)
  chk (decide (0 ≤ y1 ∧ y1 ≤ s1.size)) <|
  let y2 := asI (resC (t86 s1) 0 0)
  let y3 := s1.extract y1.toNat s1.size
  let y4 := t118 y2 y3
  let y5 := y1 == (0 : Int)
  chk ((okR zr118 zo118 y4) || !(!y5)) <|
  if y5 || (!(asB (resC y4 0 0))) then
   some ([.agg [.i .i64 (0 : Int), .s (⟨#[]⟩ : ByteArray)], .one (.b false)], [])
  else
   some ([.agg [.i .i64 y2, .s y3], .one (.b true)], [])
def t87 : Y87 := ta87 t86 t118
def zr87 : List DV := [.agg [.i .i64 0, .s ⟨#[]⟩], .one (.b false)]
def zo87 : Rw := []
def A87 : List TA := [.one (.s)]
abbrev Y46 := Int → Int → Int → Bool → Int → ByteArray → ByteArray → Int → Int → ByteArray → Int → Int → Int → Int → Bool → Int → ByteArray → Int → Rs
def ta46 (t22 : Y22) (t62 : Y62) (t86 : Y86) (t87 : Y87) (n1 n2 n3 : Int) (b1 : Bool) (n4 : Int) (s1 s2 : ByteArray) (n5 n6 : Int) (s3 : ByteArray) (n7 n8 n9 n10 : Int) (b2 : Bool) (n11 : Int) (s4 : ByteArray) (n12 : Int) : Rs :=
  let y1 := t22 n1 n2 n3 b1 n4 s1 s2 n5 n6 s3 n7
  chk (okR zr22 zo22 y1) <|
  if !(asB (resC y1 0 0)) then
   some ([.agg [.i .i64 (0 : Int), .i .i64 (0 : Int), .i .i64 (0 : Int), .b false, .i .i64 (0 : Int), .s (⟨#[]⟩ : ByteArray), .s (⟨#[]⟩ : ByteArray), .i .i64 (0 : Int), .i .i64 (0 : Int), .s (⟨#[]⟩ : ByteArray), .i .i64 (0 : Int)], .agg [.i .i64 (0 : Int), .i .i64 (0 : Int), .i .i64 (0 : Int), .i .i64 (0 : Int), .s (⟨#[]⟩ : ByteArray), .s (⟨#[]⟩ : ByteArray), .i .i64 (0 : Int), .i .i64 (0 : Int), .s (⟨#[]⟩ : ByteArray), .i .i64 (0 : Int), .i .i64 (0 : Int), .s (⟨#[]⟩ : ByteArray), .i .i64 (0 : Int), .i .i64 (0 : Int)], .one (.b false)], [])
  else
   chk (okR zr86 zo86 (t86 s4)) <|
   let y2 := asI (resC (t86 s4) 1 0)
   chk (decide (0 ≤ y2 ∧ y2 ≤ s4.size)) <|
   let y3 := t87 (s4.extract y2.toNat s4.size)
   chk (okR zr87 zo87 y3) <|
   let y4 := asI (resC (t86 s4) 0 0)
   let y5 := t62 y4 (1 : Int) (100000 : Int)
   let y6 := (((((!b1) || (!b2)) || (n8 != n1)) || (n9 != n2)) || (n11 != n3)) || (y2 == (0 : Int))
   chk ((okR zr62 zo62 y5) || !(!y6)) <|
   let y7 := t62 n12 (0 : Int) (1000000 : Int)
   let y8 := (y6 || (!(asB (resC y5 0 0)))) || (!(asB (resC y3 1 0)))
   chk ((okR zr62 zo62 y7) || !(!y8)) <|
   if y8 || (!(asB (resC y7 0 0))) then
    some ([.agg [.i .i64 n1, .i .i64 n2, .i .i64 n3, .b b1, .i .i64 n4, .s s1, .s s2, .i .i64 n5, .i .i64 n6, .s s3, .i .i64 n7], .agg [.i .i64 (0 : Int), .i .i64 (0 : Int), .i .i64 (0 : Int), .i .i64 (0 : Int), .s (⟨#[]⟩ : ByteArray), .s (⟨#[]⟩ : ByteArray), .i .i64 (0 : Int), .i .i64 (0 : Int), .s (⟨#[]⟩ : ByteArray), .i .i64 (0 : Int), .i .i64 (0 : Int), .s (⟨#[]⟩ : ByteArray), .i .i64 (0 : Int), .i .i64 (0 : Int)], .one (.b false)], [])
   else
    some ([.agg [.i .i64 n1, .i .i64 n2, .i .i64 n3, .b false, .i .i64 (0 : Int), .s (⟨#[]⟩ : ByteArray), .s (⟨#[]⟩ : ByteArray), .i .i64 (0 : Int), .i .i64 (0 : Int), .s (⟨#[]⟩ : ByteArray), .i .i64 (0 : Int)], .agg [.i .i64 n1, .i .i64 n2, .i .i64 n3, .i .i64 n4, .s s1, .s s2, .i .i64 n5, .i .i64 n6, .s s3, .i .i64 y4, .i .i64 (asI (resC y3 0 0)), .s (asS (resC y3 0 1)), .i .i64 n7, .i .i64 n12], .one (.b true)], [])
def t46 : Y46 := ta46 t22 t62 t86 t87
def zr46 : List DV := [.agg [.i .i64 0, .i .i64 0, .i .i64 0, .b false, .i .i64 0, .s ⟨#[]⟩, .s ⟨#[]⟩, .i .i64 0, .i .i64 0, .s ⟨#[]⟩, .i .i64 0], .agg [.i .i64 0, .i .i64 0, .i .i64 0, .i .i64 0, .s ⟨#[]⟩, .s ⟨#[]⟩, .i .i64 0, .i .i64 0, .s ⟨#[]⟩, .i .i64 0, .i .i64 0, .s ⟨#[]⟩, .i .i64 0, .i .i64 0], .one (.b false)]
def zo46 : Rw := []
def A46 : List TA := [.agg [.i .i64, .i .i64, .i .i64, .b, .i .i64, .s, .s, .i .i64, .i .i64, .s, .i .i64], .agg [.i .i64, .i .i64, .i .i64, .b, .i .i64, .s], .one (.i .i64)]
abbrev Y84 := ByteArray → Rs
def la84o2 (t89 : Y89) (s1 : ByteArray) (n1 n2 n3 : Int) (b1 : Bool) (q1 : Int → Int → Bool → SV → Rs) : Nat → Int → Int → SV → SV → Rs
  | 0, _, _, _, _ => none
  | m + 1, n4, n5, v1, v2 =>
    let y1 := decide (n5 ≥ (0 : Int))
    if y1 then
     chk (decide (0 ≤ n5 ∧ n5 < s1.size)) <|
     la84o2 t89 s1 n1 n2 n3 b1 q1 m (w64 ((w64 (n4 * (128 : Int))) + ((w64 ((s1.get! n5.toNat).toNat)).tmod (128 : Int)))) (w64 (n5 - (1 : Int))) (.d (.b y1)) (keepV [] v2)
    else
     q1 n4 n5 y1 (keepV [] v2)
def la84o0 (t89 : Y89) (s1 : ByteArray) (n1 n2 : Int) (q1 : Int → Int → Int → Bool → Bool → Bool → Rs) (q2 : Int → SV → SV → Bool → SV → SV → Rs) : Nat → Int → SV → SV → SV → SV → SV → Rs
  | 0, _, _, _, _, _, _ => none
  | m + 1, n3, v1, v2, v3, v4, v5 =>
    let y1 := (decide (n3 ≤ (7 : Int))) && (decide (n3 ≤ (s1.size : Int)))
    if y1 then
     la84o2 t89 s1 n1 n2 n3 y1
      (fun (n4 n5 : Int) (b1 : Bool) (v6 : SV) =>
       chk (okR zr89 zo89 (t89 n4)) <|
       chk (decide (0 ≤ (0 : Int) ∧ (0 : Int) ≤ n3 ∧ n3 ≤ s1.size)) <|
       let y2 := (asS (resC (t89 n4) 0 0)).toList == (s1.extract (0 : Int).toNat n3.toNat).toList
       if y2 then
        q1 n4 n3 n5 y1 b1 y2
       else
        la84o0 t89 s1 n1 n2 q1 q2 m (w64 (n3 + (1 : Int))) (.d (.i .i64 n4)) (.d (.i .i64 n5)) (.d (.b y1)) (.d (.b b1)) (.d (.b y2))) KK (0 : Int) (w64 (n3 - (1 : Int))) v4 v5
    else
     q2 n3 (keepV [] v1) (keepV [] v2) y1 (keepV [] v4) (keepV [] v5)
def ta84 (t89 : Y89) (s1 : ByteArray) : Rs :=
  la84o0 t89 s1 (0 : Int) (0 : Int)
   (fun (n1 n2 n3 : Int) (b1 b2 b3 : Bool) =>
    some ([.one (.i .i64 n1), .one (.i .i64 n2)], []))
   (fun (n4 : Int) (v1 v2 : SV) (b4 : Bool) (v3 v4 : SV) =>
    some ([.one (.i .i64 (0 : Int)), .one (.i .i64 (0 : Int))], [])) KK (1 : Int) SV.undef SV.undef SV.undef SV.undef SV.undef
def t84 : Y84 := ta84 t89
def zr84 : List DV := [.one (.i .i64 0), .one (.i .i64 0)]
def zo84 : Rw := []
def A84 : List TA := [.one (.s)]
abbrev Y92 := ByteArray → Int → Int → Rs
def la92o0 (t84 : Y84) (s1 : ByteArray) (n1 n2 : Int) (q1 : Int → Int → SV → SV → Bool → Bool → SV → Rw → Rs) (q2 : Int → Int → Int → Int → Bool → Bool → Bool → Rw → Rs) (q3 : Int → Int → SV → SV → Bool → SV → SV → Rw → Rs) : Nat → Int → Int → SV → SV → SV → SV → SV → Rw → Rs
  | 0, _, _, _, _, _, _, _, _ => none
  | m + 1, n3, n4, v1, v2, v3, v4, v5, l1 =>
    let y1 := decide (n4 < n1)
    if y1 then
     let y2 := (decide (n3 < (0 : Int))) || (decide (n3 > (s1.size : Int)))
     if y2 then
      q1 n3 n4 v1 v2 y1 y2 v5 l1
     else
      chk (decide (0 ≤ n3 ∧ n3 ≤ s1.size)) <|
      let y3 := t84 (s1.extract n3.toNat s1.size)
      chk (okR zr84 zo84 y3) <|
      let y4 := asI (resC y3 1 0)
      let y5 := y4 == (0 : Int)
      if y5 then
       let y6 := asI (resC y3 0 0)
       q2 n3 n4 y6 y4 y1 y2 y5 l1
      else
       let y7 := asI (resC y3 0 0)
       let y8 := ([[.i .i64 y7]] : Rw)
       chk ((flatR 1 y8) && decide (l1.length + y8.length ≤ lim)) <|
       la92o0 t84 s1 n1 n2 q1 q2 q3 m (w64 (n3 + y4)) (w64 (n4 + (1 : Int))) (.d (.i .i64 y7)) (.d (.i .i64 y4)) (.d (.b y1)) (.d (.b y2)) (.d (.b y5)) (l1 ++ y8)
    else
     q3 n3 n4 (keepV [768] v1) (keepV [768] v2) y1 (keepV [768] v4) (keepV [768] v5) l1
def ta92 (t84 : Y84) (s1 : ByteArray) (n1 n2 : Int) : Rs :=
  la92o0 t84 s1 n2 (0 : Int)
   (fun (n3 n4 : Int) (v1 v2 : SV) (b1 b2 : Bool) (v3 : SV) (l1 : Rw) =>
    some ([.one (.l l1), .one (.i .i64 (-1 : Int))], []))
   (fun (n5 n6 n7 n8 : Int) (b3 b4 b5 : Bool) (l2 : Rw) =>
    some ([.one (.l l2), .one (.i .i64 (-1 : Int))], []))
   (fun (n9 n10 : Int) (v4 v5 : SV) (b6 : Bool) (v6 v7 : SV) (l3 : Rw) =>
    some ([.one (.l l3), .one (.i .i64 n9)], [])) KK n1 (0 : Int) SV.undef SV.undef SV.undef SV.undef SV.undef ([] : Rw)
def t92 : Y92 := ta92 t84
def zr92 : List DV := [.one (.l []), .one (.i .i64 0)]
def zo92 : Rw := []
def A92 : List TA := [.one (.s), .one (.i .i64), .one (.i .i64)]
abbrev Y85 := ByteArray → Rs
def ta85 (t92 : Y92) (t106 : Y106) (s1 : ByteArray) : Rs :=
  let y1 := t92 s1 (0 : Int) (1 : Int)
  chk (okR zr92 zo92 y1) <|
  let y2 := asI (resC y1 1 0)
  if decide (y2 < (0 : Int)) then
   some ([.agg [.i .i64 (0 : Int), .s (⟨#[]⟩ : ByteArray)], .one (.b false)], [])
  else
   let y3 := asL (resC y1 0 0)
   chk (decide (0 ≤ (0 : Int)) && decide ((0 : Int) < y3.length)) <|
   let y4 := y3.getD ((0 : Int).toNat) []
   chk (decide (1 ≤ y4.length) && isF z3 0 y4) <|
   chk (decide (0 ≤ y2 ∧ y2 ≤ s1.size)) <|
   let y5 := asI (nthD y4 0)
   let y6 := s1.extract y2.toNat s1.size
   let y7 := t106 y5 y6
   chk (okR zr106 zo106 y7) <|
   if !((asS (resC y7 0 0)).toList == s1.toList) then
    some ([.agg [.i .i64 (0 : Int), .s (⟨#[]⟩ : ByteArray)], .one (.b false)], [])
   else
    some ([.agg [.i .i64 y5, .s y6], .one (.b true)], [])
def t85 : Y85 := ta85 t92 t106
def zr85 : List DV := [.agg [.i .i64 0, .s ⟨#[]⟩], .one (.b false)]
def zo85 : Rw := []
def A85 : List TA := [.one (.s)]
abbrev Y44 := Int → Int → Int → Bool → Int → ByteArray → ByteArray → Int → Int → ByteArray → Int → Int → Int → Int → Bool → Int → ByteArray → Int → Rs
def ta44 (t20 : Y20) (t60 : Y60) (t84 : Y84) (t85 : Y85) (n1 n2 n3 : Int) (b1 : Bool) (n4 : Int) (s1 s2 : ByteArray) (n5 n6 : Int) (s3 : ByteArray) (n7 n8 n9 n10 : Int) (b2 : Bool) (n11 : Int) (s4 : ByteArray) (n12 : Int) : Rs :=
  let y1 := t20 n1 n2 n3 b1 n4 s1 s2 n5 n6 s3 n7
  chk (okR zr20 zo20 y1) <|
  if !(asB (resC y1 0 0)) then
   some ([.agg [.i .i64 (0 : Int), .i .i64 (0 : Int), .i .i64 (0 : Int), .b false, .i .i64 (0 : Int), .s (⟨#[]⟩ : ByteArray), .s (⟨#[]⟩ : ByteArray), .i .i64 (0 : Int), .i .i64 (0 : Int), .s (⟨#[]⟩ : ByteArray), .i .i64 (0 : Int)], .agg [.i .i64 (0 : Int), .i .i64 (0 : Int), .i .i64 (0 : Int), .i .i64 (0 : Int), .s (⟨#[]⟩ : ByteArray), .s (⟨#[]⟩ : ByteArray), .i .i64 (0 : Int), .i .i64 (0 : Int), .s (⟨#[]⟩ : ByteArray), .i .i64 (0 : Int), .i .i64 (0 : Int), .s (⟨#[]⟩ : ByteArray), .i .i64 (0 : Int), .i .i64 (0 : Int)], .one (.b false)], [])
  else
   chk (okR zr84 zo84 (t84 s4)) <|
   let y2 := asI (resC (t84 s4) 1 0)
   chk (decide (0 ≤ y2 ∧ y2 ≤ s4.size)) <|
   let y3 := t85 (s4.extract y2.toNat s4.size)
   chk (okR zr85 zo85 y3) <|
   let y4 := asI (resC (t84 s4) 0 0)
   let y5 := t60 y4 (1 : Int) (100000 : Int)
   let y6 := ((((((!b1) || (!b2)) || (n8 != n1)) || (n9 != n2)) || (n11 != n3)) || (y2 == (0 : Int))) || (!(asB (resC y3 1 0)))
   chk ((okR zr60 zo60 y5) || !(!y6)) <|
   let y7 := t60 n12 (0 : Int) (1000000 : Int)
   let y8 := y6 || (!(asB (resC y5 0 0)))
   chk ((okR zr60 zo60 y7) || !(!y8)) <|
   if y8 || (!(asB (resC y7 0 0))) then
    some ([.agg [.i .i64 n1, .i .i64 n2, .i .i64 n3, .b b1, .i .i64 n4, .s s1, .s s2, .i .i64 n5, .i .i64 n6, .s s3, .i .i64 n7], .agg [.i .i64 (0 : Int), .i .i64 (0 : Int), .i .i64 (0 : Int), .i .i64 (0 : Int), .s (⟨#[]⟩ : ByteArray), .s (⟨#[]⟩ : ByteArray), .i .i64 (0 : Int), .i .i64 (0 : Int), .s (⟨#[]⟩ : ByteArray), .i .i64 (0 : Int), .i .i64 (0 : Int), .s (⟨#[]⟩ : ByteArray), .i .i64 (0 : Int), .i .i64 (0 : Int)], .one (.b false)], [])
   else
    some ([.agg [.i .i64 n1, .i .i64 n2, .i .i64 n3, .b false, .i .i64 (0 : Int), .s (⟨#[]⟩ : ByteArray), .s (⟨#[]⟩ : ByteArray), .i .i64 (0 : Int), .i .i64 (0 : Int), .s (⟨#[]⟩ : ByteArray), .i .i64 (0 : Int)], .agg [.i .i64 n1, .i .i64 n2, .i .i64 n3, .i .i64 n4, .s s1, .s s2, .i .i64 n5, .i .i64 n6, .s s3, .i .i64 y4, .i .i64 (asI (resC y3 0 0)), .s (asS (resC y3 0 1)), .i .i64 n7, .i .i64 n12], .one (.b true)], [])
def t44 : Y44 := ta44 t20 t60 t84 t85
def zr44 : List DV := [.agg [.i .i64 0, .i .i64 0, .i .i64 0, .b false, .i .i64 0, .s ⟨#[]⟩, .s ⟨#[]⟩, .i .i64 0, .i .i64 0, .s ⟨#[]⟩, .i .i64 0], .agg [.i .i64 0, .i .i64 0, .i .i64 0, .i .i64 0, .s ⟨#[]⟩, .s ⟨#[]⟩, .i .i64 0, .i .i64 0, .s ⟨#[]⟩, .i .i64 0, .i .i64 0, .s ⟨#[]⟩, .i .i64 0, .i .i64 0], .one (.b false)]
def zo44 : Rw := []
def A44 : List TA := [.agg [.i .i64, .i .i64, .i .i64, .b, .i .i64, .s, .s, .i .i64, .i .i64, .s, .i .i64], .agg [.i .i64, .i .i64, .i .i64, .b, .i .i64, .s], .one (.i .i64)]
abbrev Y26 := Int → Int → Int → Bool → Int → ByteArray → ByteArray → Int → Int → ByteArray → Int → Int → ByteArray → ByteArray → Int → Int → ByteArray → Int → Rs
def ta26 (t22 : Y22) (t62 : Y62) (t63 : Y63) (n1 n2 n3 : Int) (b1 : Bool) (n4 : Int) (s1 s2 : ByteArray) (n5 n6 : Int) (s3 : ByteArray) (n7 n8 : Int) (s4 s5 : ByteArray) (n9 n10 : Int) (s6 : ByteArray) (n11 : Int) : Rs :=
  let y1 := t22 n1 n2 n3 b1 n4 s1 s2 n5 n6 s3 n7
  chk (okR zr22 zo22 y1) <|
  if !(asB (resC y1 0 0)) then
   some ([.agg [.i .i64 (0 : Int), .i .i64 (0 : Int), .i .i64 (0 : Int), .b false, .i .i64 (0 : Int), .s (⟨#[]⟩ : ByteArray), .s (⟨#[]⟩ : ByteArray), .i .i64 (0 : Int), .i .i64 (0 : Int), .s (⟨#[]⟩ : ByteArray), .i .i64 (0 : Int)], .one (.b false)], [])
  else
   let y2 := t63 n8 s4 s5 n9 n10 s6
   chk ((okR zr63 zo63 y2) || !(!b1)) <|
   let y3 := t62 n11 (0 : Int) (1000000 : Int)
   let y4 := (b1 || (!(asB (resC y2 0 0)))) || (n3 == (1000000 : Int))
   chk ((okR zr62 zo62 y3) || !(!y4)) <|
   if y4 || (!(asB (resC y3 0 0))) then
    some ([.agg [.i .i64 n1, .i .i64 n2, .i .i64 n3, .b b1, .i .i64 n4, .s s1, .s s2, .i .i64 n5, .i .i64 n6, .s s3, .i .i64 n7], .one (.b false)], [])
   else
    some ([.agg [.i .i64 n1, .i .i64 n2, .i .i64 (w64 (n3 + (1 : Int))), .b true, .i .i64 n8, .s s4, .s s5, .i .i64 n9, .i .i64 n10, .s s6, .i .i64 n11], .one (.b true)], [])
def t26 : Y26 := ta26 t22 t62 t63
def zr26 : List DV := [.agg [.i .i64 0, .i .i64 0, .i .i64 0, .b false, .i .i64 0, .s ⟨#[]⟩, .s ⟨#[]⟩, .i .i64 0, .i .i64 0, .s ⟨#[]⟩, .i .i64 0], .one (.b false)]
def zo26 : Rw := []
def A26 : List TA := [.agg [.i .i64, .i .i64, .i .i64, .b, .i .i64, .s, .s, .i .i64, .i .i64, .s, .i .i64], .agg [.i .i64, .s, .s, .i .i64, .i .i64, .s], .one (.i .i64)]
abbrev Y14 := Rw → Rs
def ta14 (t20 : Y20) (t26 : Y26) (t44 : Y44) (t46 : Y46) (t58 : Y58) (t59 : Y59) (l1 : Rw) : Rs :=
  chk (okR zr58 zo58 (t58 l1)) <|
  if asB (resC (t58 l1) 0 0) then
   some ([.one (.b true)], [])
  else
   chk (okR zr59 zo59 (t59 l1)) <|
   let y1 := asI (resC (t59 l1) 0 0)
   let y2 := asI (resC (t59 l1) 0 1)
   let y3 := asI (resC (t59 l1) 0 2)
   let y4 := asB (resC (t59 l1) 0 3)
   let y5 := asI (resC (t59 l1) 0 4)
   let y6 := asS (resC (t59 l1) 0 5)
   let y7 := asS (resC (t59 l1) 0 6)
   let y8 := asI (resC (t59 l1) 0 7)
   let y9 := asI (resC (t59 l1) 0 8)
   let y10 := asS (resC (t59 l1) 0 9)
   let y11 := asI (resC (t59 l1) 0 10)
   let y12 := asI (resC (t59 l1) 1 0)
   let y13 := asI (resC (t59 l1) 1 1)
   let y14 := asI (resC (t59 l1) 1 2)
   let y15 := asB (resC (t59 l1) 1 3)
   let y16 := asI (resC (t59 l1) 1 4)
   let y17 := asS (resC (t59 l1) 1 5)
   let y18 := asI (resC (t59 l1) 2 0)
   let y19 := t46 y1 y2 y3 y4 y5 y6 y7 y8 y9 y10 y11 y12 y13 y14 y15 y16 y17 y18
   chk (okR zr46 zo46 y19) <|
   let y20 := t44 y1 y2 y3 y4 y5 y6 y7 y8 y9 y10 y11 y12 y13 y14 y15 y16 y17 y18
   chk (okR zr44 zo44 y20) <|
   let y21 := asB (resC y19 2 0)
   if !(y21 == (asB (resC y20 2 0))) then
    some ([.one (.b false)], [])
   else
    if !y21 then
     let y22 := t20 y1 y2 y3 y4 y5 y6 y7 y8 y9 y10 y11
     let y23 := asI (resC y19 1 2)
     let y24 := asI (resC y19 1 3)
     let y25 := asS (resC y19 1 4)
     let y26 := asS (resC y19 1 5)
     let y27 := asI (resC y19 1 6)
     let y28 := asI (resC y19 1 7)
     let y29 := asS (resC y19 1 8)
     let y30 := asI (resC y19 1 12)
     let y31 := asI (resC y19 1 13)
     let y32 := ((asI (resC y19 1 0)) == (0 : Int)) && (((asI (resC y19 1 1)) == (0 : Int)) && ((y23 == (0 : Int)) && ((y24 == (0 : Int)) && ((y25.toList == (⟨#[]⟩ : ByteArray).toList) && ((y26.toList == (⟨#[]⟩ : ByteArray).toList) && ((y27 == (0 : Int)) && ((y28 == (0 : Int)) && ((y29.toList == (⟨#[]⟩ : ByteArray).toList) && (((asI (resC y19 1 9)) == (0 : Int)) && (((asI (resC y19 1 10)) == (0 : Int)) && (((asS (resC y19 1 11)).toList == (⟨#[]⟩ : ByteArray).toList) && ((y30 == (0 : Int)) && ((y31 == (0 : Int)) && true)))))))))))))
     chk ((okR zr20 zo20 y22) || !y32) <|
     let y33 := asI (resC y19 0 0)
     let y34 := asI (resC y19 0 1)
     let y35 := asI (resC y19 0 2)
     let y36 := asB (resC y19 0 3)
     let y37 := asI (resC y19 0 4)
     let y38 := asS (resC y19 0 5)
     let y39 := asS (resC y19 0 6)
     let y40 := asI (resC y19 0 7)
     let y41 := asI (resC y19 0 8)
     let y42 := asS (resC y19 0 9)
     let y43 := asI (resC y19 0 10)
     some ([.one (.b (y32 && ((!(asB (resC y22 0 0))) || ((y33 == y1) && ((y34 == y2) && ((y35 == y3) && ((y36 == y4) && ((y37 == y5) && ((y38.toList == y6.toList) && ((y39.toList == y7.toList) && ((y40 == y8) && ((y41 == y9) && ((y42.toList == y10.toList) && ((y43 == y11) && true))))))))))))))], [])
    else
     let y44 := asI (resC y19 0 0)
     let y45 := asI (resC y19 0 1)
     let y46 := asI (resC y19 0 2)
     let y47 := asB (resC y19 0 3)
     let y48 := asI (resC y19 0 4)
     let y49 := asS (resC y19 0 5)
     let y50 := asS (resC y19 0 6)
     let y51 := asI (resC y19 0 7)
     let y52 := asI (resC y19 0 8)
     let y53 := asS (resC y19 0 9)
     let y54 := asI (resC y19 0 10)
     let y55 := t46 y44 y45 y46 y47 y48 y49 y50 y51 y52 y53 y54 y12 y13 y14 y15 y16 y17 y18
     chk (okR zr46 zo46 y55) <|
     let y56 := asI (resC y19 1 3)
     let y57 := asS (resC y19 1 4)
     let y58 := asS (resC y19 1 5)
     let y59 := asI (resC y19 1 6)
     let y60 := asI (resC y19 1 7)
     let y61 := asS (resC y19 1 8)
     let y62 := t26 y44 y45 y46 y47 y48 y49 y50 y51 y52 y53 y54 y56 y57 y58 y59 y60 y61 y18
     chk (okR zr26 zo26 y62) <|
     let y63 := t46 (asI (resC y62 0 0)) (asI (resC y62 0 1)) (asI (resC y62 0 2)) (asB (resC y62 0 3)) (asI (resC y62 0 4)) (asS (resC y62 0 5)) (asS (resC y62 0 6)) (asI (resC y62 0 7)) (asI (resC y62 0 8)) (asS (resC y62 0 9)) (asI (resC y62 0 10)) y12 y13 y14 y15 y16 y17 y18
     chk (okR zr46 zo46 y63) <|
     let y64 := t46 y1 y2 y3 y4 y5 y6 y7 y8 y9 y10 y11 ((w64 (y12 + (1 : Int))).tmod (3 : Int)) y13 y14 y15 y16 y17 y18
     chk (okR zr46 zo46 y64) <|
     let y65 := asI (resC y19 1 2)
     let y66 := asI (resC y19 1 12)
     let y67 := asI (resC y19 1 13)
     let y68 := asB (resC y62 1 0)
     some ([.one (.b ((((((((((!(asB (resC y55 2 0))) && (((asI (resC y55 0 0)) == y44) && (((asI (resC y55 0 1)) == y45) && (((asI (resC y55 0 2)) == y46) && (((asB (resC y55 0 3)) == y47) && (((asI (resC y55 0 4)) == y48) && (((asS (resC y55 0 5)).toList == y49.toList) && (((asS (resC y55 0 6)).toList == y50.toList) && (((asI (resC y55 0 7)) == y51) && (((asI (resC y55 0 8)) == y52) && (((asS (resC y55 0 9)).toList == y53.toList) && (((asI (resC y55 0 10)) == y54) && true)))))))))))) && (!y47)) && (!(asB (resC y64 2 0)))) && (y65 == y3)) && ((y56 == y5) && ((y57.toList == y6.toList) && ((y58.toList == y7.toList) && ((y59 == y8) && ((y60 == y9) && ((y61.toList == y10.toList) && true))))))) && (y66 == y11)) && (y67 == y18)) && (y68 == (decide (y3 < (1000000 : Int))))) && ((!y68) || (!(asB (resC y63 2 0))))))], [])
def t14 : Y14 := ta14 t20 t26 t44 t46 t58 t59
def zr14 : List DV := [.one (.b false)]
def zo14 : Rw := []
def A14 : List TA := [.one (.l)]
end
end Go.Den.L14
