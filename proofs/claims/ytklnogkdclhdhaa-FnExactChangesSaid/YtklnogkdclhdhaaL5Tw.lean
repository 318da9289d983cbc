/- What the functions come to, as plain Lean. Printed by tw.py. -/
import Derived.Test.YtklnogkdclhdhaaDm8
set_option linter.unusedVariables false
namespace Go.Den.L5
open Go
noncomputable section
/-- The rounds that a loop is given: 2 ^ 64; so laid that nothing unfolds it. -/
noncomputable def KK : Nat := Classical.choose (⟨2 ^ 64, rfl⟩ : ∃ n : Nat, n = 2 ^ 64)
def w64 (x : Int) : Int := IntKind.wrap .i64 x
noncomputable def chk (b : Bool) (x : Rs) : Rs := if b then x else none
def bitAnd (k : IntKind) (a b : Int) : Int := k.wrap (BitVec.ofInt k.bits a &&& BitVec.ofInt k.bits b).toNat
def bitOr (k : IntKind) (a b : Int) : Int := k.wrap (BitVec.ofInt k.bits a ||| BitVec.ofInt k.bits b).toNat
def bitXor (k : IntKind) (a b : Int) : Int := k.wrap (BitVec.ofInt k.bits a ^^^ BitVec.ofInt k.bits b).toNat
def stR (xs : List (List D)) (i off : Nat) (ys : List D) : List (List D) := xs.modify i fun r => r.take off ++ ys ++ r.drop (off + ys.length)
def z3 : List D := [.i .i64 0]
def z38 : List D := [.i .i64 0, .i .i64 0, .i .i64 0, .i .i64 0, .s ⟨#[]⟩]
def z90 : List D := [.i .i64 0, .s ⟨#[]⟩]
def z105 : List D := [.i .i64 0, .s ⟨#[]⟩]
abbrev Rw := List (List D)
abbrev Y49 := Int → Int → ByteArray → Int → Rs
def t49 (n1 n2 : Int) (s1 : ByteArray) (n3 : Int) : Rs :=
  let y1 := w64 (n3 - (s1.size : Int))
  if decide (y1 < (0 : Int)) then
   some ([.one (.i .i64 (-1 : Int))], [])
  else
   some ([.one (.i .i64 y1)], [])
def zr49 : List DV := [.one (.i .i64 0)]
def zo49 : Rw := []
def A49 : List TA := [.agg [.i .i64, .i .i64, .s], .one (.i .i64)]
abbrev Y82 := Int → ByteArray → Int → Rs
def t82 (n1 : Int) (s1 : ByteArray) (n2 : Int) : Rs :=
  let y1 := w64 (n2 - (s1.size : Int))
  if decide (y1 < (0 : Int)) then
   some ([.one (.i .i64 (-1 : Int))], [])
  else
   some ([.one (.i .i64 y1)], [])
def zr82 : List DV := [.one (.i .i64 0)]
def zo82 : Rw := []
def A82 : List TA := [.agg [.i .i64, .s], .one (.i .i64)]
abbrev Y50 := Rw → Int → Rs
def la50o1 (t82 : Y82) (l1 : Rw) (n1 : Int) (b1 : Bool) (q1 : Int → Int → Bool → Bool → Rs) (q2 : Int → Int → Bool → SV → Rs) : Nat → Int → Int → SV → SV → Rs
  | 0, _, _, _, _ => none
  | m + 1, n2, n3, v1, v2 =>
    let y1 := decide (n3 < (l1.length : Int))
    if y1 then
     let y2 := l1.getD n3.toNat []
     chk (decide (0 ≤ n3) && decide (n3 < l1.length) && isRow z105 y2) <|
     let y3 := t82 (asI (nthD y2 0)) (asS (nthD y2 1)) n2
     chk (okR zr82 zo82 y3) <|
     let y4 := asI (resC y3 0 0)
     let y5 := decide (y4 < (0 : Int))
     if y5 then
      q1 y4 n3 y1 y5
     else
      la50o1 t82 l1 n1 b1 q1 q2 m y4 (w64 (n3 + (1 : Int))) (.d (.b y1)) (.d (.b y5))
    else
     q2 n2 n3 y1 (keepV [] v2)
def ta50 (t82 : Y82) (l1 : Rw) (n1 : Int) : Rs :=
  let y1 := w64 (n1 - (l1.length : Int))
  let y2 := decide (y1 < (0 : Int))
  if y2 then
   some ([.one (.i .i64 (-1 : Int))], [])
  else
   la50o1 t82 l1 (0 : Int) y2
    (fun (n2 n3 : Int) (b1 b2 : Bool) =>
     some ([.one (.i .i64 (-1 : Int))], []))
    (fun (n4 n5 : Int) (b3 : Bool) (v1 : SV) =>
     some ([.one (.i .i64 n4)], [])) KK y1 (0 : Int) SV.undef SV.undef
def t50 : Y50 := ta50 t82
def zr50 : List DV := [.one (.i .i64 0)]
def zo50 : Rw := []
def A50 : List TA := [.one (.l), .one (.i .i64)]
abbrev Y12 := Int → Int → Int → Int → ByteArray → Rw → Int → Rs
def ta12 (t49 : Y49) (t50 : Y50) (n1 n2 n3 n4 : Int) (s1 : ByteArray) (l1 : Rw) (n5 : Int) : Rs :=
  let y1 := t49 n3 n4 s1 n5
  chk (okR zr49 zo49 y1) <|
  let y2 := asI (resC y1 0 0)
  if decide (y2 < (0 : Int)) then
   some ([.one (.i .i64 (-1 : Int))], [])
  else
   let y3 := t50 l1 y2
   chk (okR zr50 zo50 y3) <|
   let y4 := asI (resC y3 0 0)
   if decide (y4 < (0 : Int)) then
    some ([.one (.i .i64 (-1 : Int))], [])
   else
    some ([.one (.i .i64 y4)], [])
def t12 : Y12 := ta12 t49 t50
def zr12 : List DV := [.one (.i .i64 0)]
def zo12 : Rw := []
def A12 : List TA := [.agg [.i .i64, .i .i64, .i .i64, .i .i64, .s, .l], .one (.i .i64)]
abbrev Y54 := Int → Int → ByteArray → Rs
def t54 (n1 n2 : Int) (s1 : ByteArray) : Rs :=
  some ([.agg [.i .i64 n1, .i .i64 n2, .s s1]], [])
def zr54 : List DV := [.agg [.i .i64 0, .i .i64 0, .s ⟨#[]⟩]]
def zo54 : Rw := []
def A54 : List TA := [.agg [.i .i64, .i .i64, .s]]
abbrev Y87 := Int → ByteArray → Rs
def t87 (n1 : Int) (s1 : ByteArray) : Rs :=
  some ([.agg [.i .i64 n1, .s s1]], [])
def zr87 : List DV := [.agg [.i .i64 0, .s ⟨#[]⟩]]
def zo87 : Rw := []
def A87 : List TA := [.agg [.i .i64, .s]]
abbrev Y55 := Rw → Rs
def la55o0 (t87 : Y87) (l1 : Rw) (q1 : Int → Bool → Rw → Rs) : Nat → Int → SV → Rw → Rs
  | 0, _, _, _ => none
  | m + 1, n1, v1, l2 =>
    let y1 := decide (n1 < (l1.length : Int))
    if y1 then
     let y2 := l1.getD n1.toNat []
     chk (decide (0 ≤ n1) && decide (n1 < l1.length) && isRow z105 y2) <|
     let y3 := t87 (asI (nthD y2 0)) (asS (nthD y2 1))
     chk (okR zr87 zo87 y3) <|
     chk (decide (0 ≤ n1) && decide (n1 < l2.length)) <|
     chk (decide (2 ≤ 2 ∧ (n1.toNat) < l2.length)) <|
     la55o0 t87 l1 q1 m (w64 (n1 + (1 : Int))) (.d (.b y1)) (stR l2 (n1.toNat) 0 [.i .i64 (asI (resC y3 0 0)), .s (asS (resC y3 0 1))])
    else
     q1 n1 y1 l2
def ta55 (t87 : Y87) (l1 : Rw) : Rs :=
  let y1 := (l1.length : Int)
  chk (decide (0 ≤ y1 ∧ y1 ≤ lim ∧ y1 = y1)) <|
  la55o0 t87 l1
   (fun (n1 : Int) (b1 : Bool) (l2 : Rw) =>
    some ([.one (.l l2)], [])) KK (0 : Int) SV.undef (List.replicate y1.toNat z90)
def t55 : Y55 := ta55 t87
def zr55 : List DV := [.one (.l [])]
def zo55 : Rw := []
def A55 : List TA := [.one (.l)]
abbrev Y15 := Int → Int → Int → Int → ByteArray → Rw → Rs
def ta15 (t54 : Y54) (t55 : Y55) (n1 n2 n3 n4 : Int) (s1 : ByteArray) (l1 : Rw) : Rs :=
  let y1 := t54 n3 n4 s1
  chk (okR zr54 zo54 y1) <|
  chk (okR zr55 zo55 (t55 l1)) <|
  some ([.agg [.i .i64 n1, .i .i64 n2, .i .i64 (asI (resC y1 0 0)), .i .i64 (asI (resC y1 0 1)), .s (asS (resC y1 0 2)), .l (asL (resC (t55 l1) 0 0))]], [])
def t15 : Y15 := ta15 t54 t55
def zr15 : List DV := [.agg [.i .i64 0, .i .i64 0, .i .i64 0, .i .i64 0, .s ⟨#[]⟩, .l []]]
def zo15 : Rw := []
def A15 : List TA := [.agg [.i .i64, .i .i64, .i .i64, .i .i64, .s, .l]]
abbrev Y83 := Int → Int → Int → Rs
def t83 (n1 n2 n3 : Int) : Rs :=
  some ([.one (.b ((decide (n1 ≥ n2)) && (decide (n1 ≤ n3))))], [])
def zr83 : List DV := [.one (.b false)]
def zo83 : Rw := []
def A83 : List TA := [.one (.i .i64), .one (.i .i64), .one (.i .i64)]
abbrev Y84 := Int → Int → Rs
def ta84 (t83 : Y83) (n1 n2 : Int) : Rs :=
  if n1 == (0 : Int) then
   some ([.one (.b (n2 == (0 : Int)))], [])
  else
   let y1 := t83 n1 (1 : Int) (100000 : Int)
   chk (okR zr83 zo83 y1) <|
   let y2 := t83 n2 (1 : Int) (100000 : Int)
   let y3 := asB (resC y1 0 0)
   chk ((okR zr83 zo83 y2) || !y3) <|
   some ([.one (.b (y3 && (asB (resC y2 0 0))))], [])
def t84 : Y84 := ta84 t83
def zr84 : List DV := [.one (.b false)]
def zo84 : Rw := []
def A84 : List TA := [.one (.i .i64), .one (.i .i64)]
abbrev Y51 := Int → Int → Int → Int → ByteArray → Rw → Rs
def la51o1 (t83 : Y83) (t84 : Y84) (n1 n2 n3 n4 : Int) (s1 : ByteArray) (l1 : Rw) (b1 b2 : Bool) (n5 n6 n7 n8 : Int) (s2 : ByteArray) (l2 : Rw) (q1 : Int → Int → Bool → Bool → Int → ByteArray → Rs) (q2 : Int → Int → Bool → SV → Rs) : Nat → Int → Int → SV → SV → Rs
  | 0, _, _, _, _ => none
  | m + 1, n9, n10, v1, v2 =>
    let y1 := decide (n10 < (l2.length : Int))
    if y1 then
     let y2 := l2.getD n10.toNat []
     chk (decide (0 ≤ n10) && decide (n10 < l2.length) && isRow z90 y2) <|
     let y3 := asI (nthD y2 0)
     let y4 := asS (nthD y2 1)
     let y5 := (((decide (y3 < (1 : Int))) || (decide (y3 < n9))) || (decide (y3 > n5))) || (decide ((y4.size : Int) > (1600 : Int)))
     if y5 then
      q1 n9 n10 y1 y5 y3 y4
     else
      la51o1 t83 t84 n1 n2 n3 n4 s1 l1 b1 b2 n5 n6 n7 n8 s2 l2 q1 q2 m y3 (w64 (n10 + (1 : Int))) (.d (.b y1)) (.d (.b y5))
    else
     q2 n9 n10 y1 (keepV [64] v2)
def ta51 (t83 : Y83) (t84 : Y84) (n1 n2 n3 n4 : Int) (s1 : ByteArray) (l1 : Rw) : Rs :=
  let y1 := t83 n1 (0 : Int) (100000 : Int)
  chk (okR zr83 zo83 y1) <|
  let y2 := t83 n2 (-1 : Int) (4 : Int)
  let y3 := !(asB (resC y1 0 0))
  chk ((okR zr83 zo83 y2) || !(!y3)) <|
  let y4 := y3 || (!(asB (resC y2 0 0)))
  chk ((okR zr84 zo84 (t84 n3 n4)) || !(!y4)) <|
  let y5 := (((((y4 || (!(asB (resC (t84 n3 n4) 0 0)))) || ((n3 == (0 : Int)) && (!(s1.toList == (⟨#[]⟩ : ByteArray).toList)))) || (decide ((s1.size : Int) > (20000 : Int)))) || (decide (n4 > n1))) || (decide ((l1.length : Int) > (60 : Int)))) || (decide ((w64 (n3 + (l1.length : Int))) > (100000 : Int)))
  if y5 then
   some ([.one (.b false)], [])
  else
   la51o1 t83 t84 n1 n2 n3 n4 s1 l1 false y5 n1 n2 n3 n4 s1 l1
    (fun (n5 n6 : Int) (b1 b2 : Bool) (n7 : Int) (s2 : ByteArray) =>
     some ([.one (.b false)], []))
    (fun (n8 n9 : Int) (b3 : Bool) (v1 : SV) =>
     some ([.one (.b true)], [])) KK n4 (0 : Int) SV.undef SV.undef
def t51 : Y51 := ta51 t83 t84
def zr51 : List DV := [.one (.b false)]
def zo51 : Rw := []
def A51 : List TA := [.agg [.i .i64, .i .i64, .i .i64, .i .i64, .s, .l]]
abbrev Y65 := Int → Int → Int → Int → ByteArray → Rw → Int → Int → Rs
def t65 (n1 n2 n3 n4 : Int) (s1 : ByteArray) (l1 : Rw) (n5 n6 : Int) : Rs :=
  let y1 := w64 (n5 - n3)
  let y2 := w64 (y1 - (1 : Int))
  let y3 := l1.getD y2.toNat []
  let y4 := (decide (y1 ≥ (1 : Int))) && (decide (y1 ≤ (l1.length : Int)))
  chk ((decide (0 ≤ y2) && decide (y2 < l1.length) && isRow z90 y3) || !y4) <|
  if y4 && ((asI (nthD y3 0)) == n6) then
   chk (decide (0 ≤ y1 ∧ y1 ≤ l1.length ∧ (l1.getD 0 z90).length = z90.length)) <|
   let y5 := l1.drop y1.toNat
   chk ((flatR 2 y5) && decide (([] : Rw).length + y5.length ≤ lim)) <|
   some ([.one (.l (([] : Rw) ++ y5))], [])
  else
   some ([.one (.l ([] : Rw))], [])
def zr65 : List DV := [.one (.l [])]
def zo65 : Rw := []
def A65 : List TA := [.agg [.i .i64, .i .i64, .i .i64, .i .i64, .s, .l], .one (.i .i64), .one (.i .i64)]
abbrev Y53 := Int → Int → Int → Int → ByteArray → Rw → Rs
def t53 (n1 n2 n3 n4 : Int) (s1 : ByteArray) (l1 : Rw) : Rs :=
  chk ((flatR 2 l1) && decide (([] : Rw).length + l1.length ≤ lim)) <|
  some ([.agg [.i .i64 n1, .i .i64 n2, .i .i64 n3, .i .i64 n4, .s s1, .l (([] : Rw) ++ l1)]], [])
def zr53 : List DV := [.agg [.i .i64 0, .i .i64 0, .i .i64 0, .i .i64 0, .s ⟨#[]⟩, .l []]]
def zo53 : Rw := []
def A53 : List TA := [.agg [.i .i64, .i .i64, .i .i64, .i .i64, .s, .l]]
abbrev Y85 := Int → Int → Int → Int → ByteArray → Rs
def ta85 (t83 : Y83) (n1 n2 n3 n4 : Int) (s1 : ByteArray) : Rs :=
  if n1 == (1 : Int) then
   let y1 := t83 n2 (0 : Int) (100000 : Int)
   chk (okR zr83 zo83 y1) <|
   let y2 := t83 n4 (-1 : Int) (4 : Int)
   let y3 := asB (resC y1 0 0)
   chk ((okR zr83 zo83 y2) || !y3) <|
   some ([.one (.b (((y3 && (asB (resC y2 0 0))) && (n3 == (0 : Int))) && (s1.toList == (⟨#[]⟩ : ByteArray).toList)))], [])
  else
   if n1 == (2 : Int) then
    let y4 := t83 n2 (1 : Int) (100000 : Int)
    chk (okR zr83 zo83 y4) <|
    let y5 := t83 n3 (1 : Int) (100000 : Int)
    let y6 := asB (resC y4 0 0)
    chk ((okR zr83 zo83 y5) || !y6) <|
    some ([.one (.b (((y6 && (asB (resC y5 0 0))) && (n4 == (0 : Int))) && (decide ((s1.size : Int) ≤ (1600 : Int)))))], [])
   else
    if n1 == (3 : Int) then
     let y7 := t83 n3 (1 : Int) (100000 : Int)
     let y8 := n2 == (0 : Int)
     chk ((okR zr83 zo83 y7) || !y8) <|
     some ([.one (.b (((y8 && (asB (resC y7 0 0))) && (n4 == (0 : Int))) && (s1.toList == (⟨#[]⟩ : ByteArray).toList)))], [])
    else
     if n1 == (4 : Int) then
      let y9 := t83 n2 (1 : Int) (100000 : Int)
      chk (okR zr83 zo83 y9) <|
      let y10 := t83 n3 (1 : Int) (100000 : Int)
      let y11 := asB (resC y9 0 0)
      chk ((okR zr83 zo83 y10) || !y11) <|
      some ([.one (.b (((y11 && (asB (resC y10 0 0))) && (n4 == (0 : Int))) && (decide ((s1.size : Int) ≤ (20000 : Int)))))], [])
     else
      some ([.one (.b false)], [])
def t85 : Y85 := ta85 t83
def zr85 : List DV := [.one (.b false)]
def zo85 : Rw := []
def A85 : List TA := [.agg [.i .i64, .i .i64, .i .i64, .i .i64, .s]]
abbrev Y94 := Int → Int → Int → Int → ByteArray → Rw → Rs
def t94 (n1 n2 n3 n4 : Int) (s1 : ByteArray) (l1 : Rw) : Rs :=
  if (l1.length : Int) == (0 : Int) then
   some ([.one (.i .i64 n4)], [])
  else
   let y1 := w64 ((l1.length : Int) - (1 : Int))
   let y2 := l1.getD y1.toNat []
   chk (decide (0 ≤ y1) && decide (y1 < l1.length) && isRow z90 y2) <|
   some ([.one (.i .i64 (asI (nthD y2 0)))], [])
def zr94 : List DV := [.one (.i .i64 0)]
def zo94 : Rw := []
def A94 : List TA := [.agg [.i .i64, .i .i64, .i .i64, .i .i64, .s, .l]]
abbrev Y86 := Int → Int → Int → Int → ByteArray → Rw → Int → Int → Int → Int → ByteArray → Rs
def ta86 (t94 : Y94) (n1 n2 n3 n4 : Int) (s1 : ByteArray) (l1 : Rw) (n5 n6 n7 n8 : Int) (s2 : ByteArray) : Rs :=
  if n5 == (1 : Int) then
   some ([.one (.b ((decide (n6 > n1)) || ((n6 == n1) && ((n2 == (-1 : Int)) || (n8 == n2)))))], [])
  else
   if n5 == (2 : Int) then
    let y1 := t94 n1 n2 n3 n4 s1 l1
    let y2 := w64 (n3 + (l1.length : Int))
    let y3 := (n7 == (w64 (y2 + (1 : Int)))) && (decide ((l1.length : Int) < (60 : Int)))
    chk ((okR zr94 zo94 y1) || !y3) <|
    some ([.one (.b ((y3 && (decide (n6 ≥ (asI (resC y1 0 0))))) && (decide (n6 ≤ n1))))], [])
   else
    if n5 == (3 : Int) then
     let y4 := w64 (n3 + (l1.length : Int))
     some ([.one (.b ((decide (n7 > n3)) && (decide (n7 ≤ y4))))], [])
    else
     if n5 == (4 : Int) then
      some ([.one (.b ((decide (n7 > n3)) && (decide (n6 ≤ n1))))], [])
     else
      some ([.one (.b false)], [])
def t86 : Y86 := ta86 t94
def zr86 : List DV := [.one (.b false)]
def zo86 : Rw := []
def A86 : List TA := [.agg [.i .i64, .i .i64, .i .i64, .i .i64, .s, .l], .agg [.i .i64, .i .i64, .i .i64, .i .i64, .s]]
abbrev Y52 := Int → Int → Int → Int → ByteArray → Rw → Int → Int → Int → Int → ByteArray → Rs
def ta52 (t65 : Y65) (t85 : Y85) (t86 : Y86) (n1 n2 n3 n4 : Int) (s1 : ByteArray) (l1 : Rw) (n5 n6 n7 n8 : Int) (s2 : ByteArray) : Rs :=
  let y1 := t85 n5 n6 n7 n8 s2
  chk (okR zr85 zo85 y1) <|
  let y2 := t86 n1 n2 n3 n4 s1 l1 n5 n6 n7 n8 s2
  let y3 := !(asB (resC y1 0 0))
  chk ((okR zr86 zo86 y2) || !(!y3)) <|
  if y3 || (!(asB (resC y2 0 0))) then
   some ([.agg [.i .i64 n1, .i .i64 n2, .i .i64 n3, .i .i64 n4, .s s1, .l l1], .one (.b false)], [])
  else
   if n5 == (1 : Int) then
    some ([.agg [.i .i64 n6, .i .i64 n8, .i .i64 n3, .i .i64 n4, .s s1, .l l1], .one (.b true)], [])
   else
    if n5 == (2 : Int) then
     let y4 := ([[.i .i64 n6, .s s2]] : Rw)
     chk ((flatR 2 y4) && decide (l1.length + y4.length ≤ lim)) <|
     some ([.agg [.i .i64 n1, .i .i64 n2, .i .i64 n3, .i .i64 n4, .s s1, .l (l1 ++ y4)], .one (.b true)], [])
    else
     if n5 == (3 : Int) then
      let y5 := w64 ((w64 (n7 - n3)) - (1 : Int))
      chk (decide (0 ≤ y5 ∧ y5 ≤ l1.length)) <|
      some ([.agg [.i .i64 n1, .i .i64 n2, .i .i64 n3, .i .i64 n4, .s s1, .l (l1.take y5.toNat)], .one (.b true)], [])
     else
      let y6 := t65 n1 n2 n3 n4 s1 l1 n7 n6
      chk (okR zr65 zo65 y6) <|
      some ([.agg [.i .i64 n1, .i .i64 n2, .i .i64 n7, .i .i64 n6, .s s2, .l (asL (resC y6 0 0))], .one (.b true)], [])
def t52 : Y52 := ta52 t65 t85 t86
def zr52 : List DV := [.agg [.i .i64 0, .i .i64 0, .i .i64 0, .i .i64 0, .s ⟨#[]⟩, .l []], .one (.b false)]
def zo52 : Rw := []
def A52 : List TA := [.agg [.i .i64, .i .i64, .i .i64, .i .i64, .s, .l], .agg [.i .i64, .i .i64, .i .i64, .i .i64, .s]]
abbrev Y26 := Int → Int → Int → Int → ByteArray → Rw → Int → Int → Int → Int → ByteArray → Rw → Rs
def la26o9 (t51 : Y51) (t52 : Y52) (t53 : Y53) (t65 : Y65) (n1 n2 n3 n4 : Int) (s1 : ByteArray) (l1 : Rw) (n5 n6 n7 n8 : Int) (s2 : ByteArray) (l2 : Rw) (b1 : Bool) (n9 n10 : Int) (b2 b3 b4 b5 b6 b7 b8 : Bool) (n11 n12 n13 n14 : Int) (s3 : ByteArray) (l3 : Rw) (n15 n16 n17 n18 : Int) (s4 : ByteArray) (l4 l5 l6 l7 : Rw) (q1 : Int → Bool → Bool → Bool → Int → Int → Int → Int → ByteArray → Int → Int → Int → Int → ByteArray → Rw → Rs) (q2 : Int → SV → Bool → SV → Int → Int → Int → Int → ByteArray → Rw → Rs) : Nat → Int → SV → SV → SV → Int → Int → Int → Int → ByteArray → Rw → Rs
  | 0, _, _, _, _, _, _, _, _, _, _ => none
  | m + 1, n19, v1, v2, v3, n20, n21, n22, n23, s5, l8 =>
    let y1 := decide (n19 < (l6.length : Int))
    if y1 then
     chk (decide (0 ≤ n19) && decide (n19 < l6.length)) <|
     let y2 := l6.getD (n19.toNat) []
     chk (decide (5 ≤ y2.length) && isF z38 0 y2) <|
     let y3 := t52 n20 n21 n22 n23 s5 l8 (asI (nthD y2 0)) (asI (nthD y2 1)) (asI (nthD y2 2)) (asI (nthD y2 3)) (asS (nthD y2 4))
     chk (okR zr52 zo52 y3) <|
     let y4 := asB (resC y3 1 0)
     let y5 := !y4
     if y5 then
      let y6 := asI (resC y3 0 0)
      let y7 := asI (resC y3 0 1)
      let y8 := asI (resC y3 0 2)
      let y9 := asI (resC y3 0 3)
      let y10 := asS (resC y3 0 4)
      let y11 := asL (resC y3 0 5)
      q1 n19 y4 y1 y5 n20 n21 n22 n23 s5 y6 y7 y8 y9 y10 y11
     else
      let y12 := asI (resC y3 0 0)
      let y13 := asI (resC y3 0 1)
      let y14 := asI (resC y3 0 2)
      let y15 := asI (resC y3 0 3)
      let y16 := asS (resC y3 0 4)
      let y17 := asL (resC y3 0 5)
      la26o9 t51 t52 t53 t65 n1 n2 n3 n4 s1 l1 n5 n6 n7 n8 s2 l2 b1 n9 n10 b2 b3 b4 b5 b6 b7 b8 n11 n12 n13 n14 s3 l3 n15 n16 n17 n18 s4 l4 l5 l6 l7 q1 q2 m (w64 (n19 + (1 : Int))) (.d (.b y4)) (.d (.b y1)) (.d (.b y5)) y12 y13 y14 y15 y16 y17
    else
     q2 n19 (keepV [128, 192, 704, 960, 1600, 4672, 45062] v1) y1 (keepV [128, 192, 704, 960, 1600, 4672, 45062] v3) n20 n21 n22 n23 s5 l8
def la26o100009 (t51 : Y51) (t52 : Y52) (t53 : Y53) (t65 : Y65) (n1 n2 n3 n4 : Int) (s1 : ByteArray) (l1 : Rw) (n5 n6 n7 n8 : Int) (s2 : ByteArray) (l2 : Rw) (b1 : Bool) (l3 : Rw) (n9 n10 : Int) (b2 b3 b4 b5 b6 b7 b8 : Bool) (n11 n12 n13 n14 : Int) (s3 : ByteArray) (l4 : Rw) (n15 n16 n17 n18 : Int) (s4 : ByteArray) (l5 l6 l7 : Rw) (q1 : Int → Bool → Bool → Bool → Int → Int → Int → Int → ByteArray → Int → Int → Int → Int → ByteArray → Rw → Rs) (q2 : Int → SV → Bool → SV → Int → Int → Int → Int → ByteArray → Rw → Rs) : Nat → Int → SV → SV → SV → Int → Int → Int → Int → ByteArray → Rw → Rs
  | 0, _, _, _, _, _, _, _, _, _, _ => none
  | m + 1, n19, v1, v2, v3, n20, n21, n22, n23, s5, l8 =>
    let y1 := decide (n19 < (l7.length : Int))
    if y1 then
     chk (decide (0 ≤ n19) && decide (n19 < l7.length)) <|
     let y2 := l7.getD (n19.toNat) []
     chk (decide (5 ≤ y2.length) && isF z38 0 y2) <|
     let y3 := t52 n20 n21 n22 n23 s5 l8 (asI (nthD y2 0)) (asI (nthD y2 1)) (asI (nthD y2 2)) (asI (nthD y2 3)) (asS (nthD y2 4))
     chk (okR zr52 zo52 y3) <|
     let y4 := asB (resC y3 1 0)
     let y5 := !y4
     if y5 then
      let y6 := asI (resC y3 0 0)
      let y7 := asI (resC y3 0 1)
      let y8 := asI (resC y3 0 2)
      let y9 := asI (resC y3 0 3)
      let y10 := asS (resC y3 0 4)
      let y11 := asL (resC y3 0 5)
      q1 n19 y4 y1 y5 n20 n21 n22 n23 s5 y6 y7 y8 y9 y10 y11
     else
      let y12 := asI (resC y3 0 0)
      let y13 := asI (resC y3 0 1)
      let y14 := asI (resC y3 0 2)
      let y15 := asI (resC y3 0 3)
      let y16 := asS (resC y3 0 4)
      let y17 := asL (resC y3 0 5)
      la26o100009 t51 t52 t53 t65 n1 n2 n3 n4 s1 l1 n5 n6 n7 n8 s2 l2 b1 l3 n9 n10 b2 b3 b4 b5 b6 b7 b8 n11 n12 n13 n14 s3 l4 n15 n16 n17 n18 s4 l5 l6 l7 q1 q2 m (w64 (n19 + (1 : Int))) (.d (.b y4)) (.d (.b y1)) (.d (.b y5)) y12 y13 y14 y15 y16 y17
    else
     q2 n19 (keepV [128, 192, 704, 960, 1600, 45062] v1) y1 (keepV [128, 192, 704, 960, 1600, 45062] v3) n20 n21 n22 n23 s5 l8
def la26o6 (t51 : Y51) (t52 : Y52) (t53 : Y53) (t65 : Y65) (n1 n2 n3 n4 : Int) (s1 : ByteArray) (l1 : Rw) (n5 n6 n7 n8 : Int) (s2 : ByteArray) (l2 : Rw) (b1 : Bool) (n9 : Int) (b2 b3 b4 b5 b6 : Bool) (n10 n11 n12 n13 : Int) (s3 : ByteArray) (l3 : Rw) (n14 n15 n16 n17 : Int) (s4 : ByteArray) (l4 l5 l6 : Rw) (q1 : Int → Bool → Rw → Rs) : Nat → Int → SV → Rw → Rs
  | 0, _, _, _ => none
  | m + 1, n18, v1, l7 =>
    let y1 := decide (n18 < (l4.length : Int))
    if y1 then
     let y2 := l4.getD n18.toNat []
     chk (decide (0 ≤ n18) && decide (n18 < l4.length) && isRow z90 y2) <|
     let y3 := l4.getD n18.toNat []
     chk (decide (0 ≤ n18) && decide (n18 < l4.length) && isRow z90 y3) <|
     let y4 := ([[.i .i64 (2 : Int), .i .i64 (asI (nthD y2 0)), .i .i64 (w64 ((w64 (n16 + (1 : Int))) + n18)), .i .i64 (0 : Int), .s (asS (nthD y3 1))]] : Rw)
     chk ((flatR 5 y4) && decide (l7.length + y4.length ≤ lim)) <|
     la26o6 t51 t52 t53 t65 n1 n2 n3 n4 s1 l1 n5 n6 n7 n8 s2 l2 b1 n9 b2 b3 b4 b5 b6 n10 n11 n12 n13 s3 l3 n14 n15 n16 n17 s4 l4 l5 l6 q1 m (w64 (n18 + (1 : Int))) (.d (.b y1)) (l7 ++ y4)
    else
     q1 n18 y1 l7
def la26o100006 (t51 : Y51) (t52 : Y52) (t53 : Y53) (t65 : Y65) (n1 n2 n3 n4 : Int) (s1 : ByteArray) (l1 : Rw) (n5 n6 n7 n8 : Int) (s2 : ByteArray) (l2 : Rw) (b1 : Bool) (l3 : Rw) (n9 : Int) (b2 b3 b4 b5 b6 : Bool) (n10 n11 n12 n13 : Int) (s3 : ByteArray) (l4 : Rw) (n14 n15 n16 n17 : Int) (s4 : ByteArray) (l5 l6 : Rw) (q1 : Int → Bool → Rw → Rs) : Nat → Int → SV → Rw → Rs
  | 0, _, _, _ => none
  | m + 1, n18, v1, l7 =>
    let y1 := decide (n18 < (l5.length : Int))
    if y1 then
     let y2 := l5.getD n18.toNat []
     chk (decide (0 ≤ n18) && decide (n18 < l5.length) && isRow z90 y2) <|
     let y3 := l5.getD n18.toNat []
     chk (decide (0 ≤ n18) && decide (n18 < l5.length) && isRow z90 y3) <|
     let y4 := ([[.i .i64 (2 : Int), .i .i64 (asI (nthD y2 0)), .i .i64 (w64 ((w64 (n16 + (1 : Int))) + n18)), .i .i64 (0 : Int), .s (asS (nthD y3 1))]] : Rw)
     chk ((flatR 5 y4) && decide (l7.length + y4.length ≤ lim)) <|
     la26o100006 t51 t52 t53 t65 n1 n2 n3 n4 s1 l1 n5 n6 n7 n8 s2 l2 b1 l3 n9 b2 b3 b4 b5 b6 n10 n11 n12 n13 s3 l4 n14 n15 n16 n17 s4 l5 l6 q1 m (w64 (n18 + (1 : Int))) (.d (.b y1)) (l7 ++ y4)
    else
     q1 n18 y1 l7
def la26o3 (t51 : Y51) (t52 : Y52) (t53 : Y53) (t65 : Y65) (n1 n2 n3 n4 : Int) (s1 : ByteArray) (l1 : Rw) (n5 n6 n7 n8 : Int) (s2 : ByteArray) (l2 : Rw) (b1 b2 b3 b4 : Bool) (n9 n10 n11 n12 : Int) (s3 : ByteArray) (l3 : Rw) (n13 n14 n15 n16 : Int) (s4 : ByteArray) (l4 l5 l6 l7 l8 : Rw) (q1 : Int → Bool → Rs) : Nat → Int → SV → Rs
  | 0, _, _ => none
  | m + 1, n17, v1 =>
    let y1 := (decide (n17 < (l8.length : Int))) && (decide (n17 < (l4.length : Int)))
    chk ((decide (0 ≤ n17) && decide (n17 < l8.length)) || !y1) <|
    let y2 := l8.getD (n17.toNat) []
    chk ((decide (2 ≤ y2.length) && isF z90 0 y2) || !y1) <|
    let y3 := l4.getD n17.toNat []
    chk ((decide (0 ≤ n17) && decide (n17 < l4.length) && isRow z90 y3) || !y1) <|
    let y4 := y1 && (((asI (nthD y2 0)) == (asI (nthD y3 0))) && (((asS (nthD y2 1)).toList == (asS (nthD y3 1)).toList) && true))
    if y4 then
     la26o3 t51 t52 t53 t65 n1 n2 n3 n4 s1 l1 n5 n6 n7 n8 s2 l2 b1 b2 b3 b4 n9 n10 n11 n12 s3 l3 n13 n14 n15 n16 s4 l4 l5 l6 l7 l8 q1 m (w64 (n17 + (1 : Int))) (.d (.b y4))
    else
     q1 n17 y4
def la26o100003 (t51 : Y51) (t52 : Y52) (t53 : Y53) (t65 : Y65) (n1 n2 n3 n4 : Int) (s1 : ByteArray) (l1 : Rw) (n5 n6 n7 n8 : Int) (s2 : ByteArray) (l2 : Rw) (b1 : Bool) (l3 : Rw) (b2 b3 b4 : Bool) (n9 n10 n11 n12 : Int) (s3 : ByteArray) (l4 : Rw) (n13 n14 n15 n16 : Int) (s4 : ByteArray) (l5 l6 l7 : Rw) (q1 : Int → Bool → Rs) : Nat → Int → SV → Rs
  | 0, _, _ => none
  | m + 1, n17, v1 =>
    let y1 := l3.getD n17.toNat []
    let y2 := (decide (n17 < (l3.length : Int))) && (decide (n17 < (l5.length : Int)))
    chk ((decide (0 ≤ n17) && decide (n17 < l3.length) && isRow z90 y1) || !y2) <|
    let y3 := l5.getD n17.toNat []
    chk ((decide (0 ≤ n17) && decide (n17 < l5.length) && isRow z90 y3) || !y2) <|
    let y4 := y2 && (((asI (nthD y1 0)) == (asI (nthD y3 0))) && (((asS (nthD y1 1)).toList == (asS (nthD y3 1)).toList) && true))
    if y4 then
     la26o100003 t51 t52 t53 t65 n1 n2 n3 n4 s1 l1 n5 n6 n7 n8 s2 l2 b1 l3 b2 b3 b4 n9 n10 n11 n12 s3 l4 n13 n14 n15 n16 s4 l5 l6 l7 q1 m (w64 (n17 + (1 : Int))) (.d (.b y4))
    else
     q1 n17 y4
def ta26 (t51 : Y51) (t52 : Y52) (t53 : Y53) (t65 : Y65) (n1 n2 n3 n4 : Int) (s1 : ByteArray) (l1 : Rw) (n5 n6 n7 n8 : Int) (s2 : ByteArray) (l2 : Rw) : Rs :=
  let y1 := t51 n1 n2 n3 n4 s1 l1
  chk (okR zr51 zo51 y1) <|
  let y2 := t51 n5 n6 n7 n8 s2 l2
  let y3 := !(asB (resC y1 0 0))
  chk ((okR zr51 zo51 y2) || !(!y3)) <|
  let y4 := y3 || (!(asB (resC y2 0 0)))
  if y4 then
   some ([.one (.l ([] : Rw)), .one (.b false)], [])
  else
   let k1 := fun (l3 : Rw) =>
    let y5 := !((n3 == n7) && ((n4 == n8) && ((s1.toList == s2.toList) && true)))
    if y5 then
     let y6 := ([[.i .i64 (4 : Int), .i .i64 n8, .i .i64 n7, .i .i64 (0 : Int), .s s2]] : Rw)
     chk ((flatR 5 y6) && decide (l3.length + y6.length ≤ lim)) <|
     let y7 := t65 n1 n2 n3 n4 s1 l1 n7 n8
     chk (okR zr65 zo65 y7) <|
     let y8 := (n1 != n5) || (n2 != n6)
     let y9 := l3 ++ y6
     let y10 := asL (resC y7 0 0)
     la26o3 t51 t52 t53 t65 n1 n2 n3 n4 s1 l1 n5 n6 n7 n8 s2 l2 false y4 y8 y5 n1 n2 n3 n4 s1 l1 n5 n6 n7 n8 s2 l2 ([] : Rw) y9 y6 y10
      (fun (n9 : Int) (b1 : Bool) =>
       let k2 := fun (l4 : Rw) =>
        let y11 := decide (n9 < (y10.length : Int))
        la26o6 t51 t52 t53 t65 n1 n2 n3 n4 s1 l1 n5 n6 n7 n8 s2 l2 false n9 y4 y8 y5 b1 y11 n1 n2 n3 n4 s1 l1 n5 n6 n7 n8 s2 l2 ([] : Rw) y10
         (fun (n10 : Int) (b2 : Bool) (l5 : Rw) =>
          let y12 := decide ((l5.length : Int) > (80 : Int))
          if y12 then
           some ([.one (.l ([] : Rw)), .one (.b false)], [])
          else
           let y13 := t53 n1 n2 n3 n4 s1 l1
           chk (okR zr53 zo53 y13) <|
           la26o9 t51 t52 t53 t65 n1 n2 n3 n4 s1 l1 n5 n6 n7 n8 s2 l2 false n9 n10 y4 y8 y5 b1 y11 b2 y12 n1 n2 n3 n4 s1 l1 n5 n6 n7 n8 s2 l2 ([] : Rw) l5 y10
            (fun (n11 : Int) (b3 b4 b5 : Bool) (n12 n13 n14 n15 : Int) (s3 : ByteArray) (n16 n17 n18 n19 : Int) (s4 : ByteArray) (l6 : Rw) =>
             some ([.one (.l ([] : Rw)), .one (.b false)], []))
            (fun (n20 : Int) (v1 : SV) (b6 : Bool) (v2 : SV) (n21 n22 n23 n24 : Int) (s5 : ByteArray) (l7 : Rw) =>
             some ([.one (.l l5), .one (.b true)], [])) KK (0 : Int) SV.undef SV.undef SV.undef (asI (resC y13 0 0)) (asI (resC y13 0 1)) (asI (resC y13 0 2)) (asI (resC y13 0 3)) (asS (resC y13 0 4)) (asL (resC y13 0 5))) KK n9 SV.undef l4
       let y14 := decide (n9 < (y10.length : Int))
       if y14 then
        let y15 := ([[.i .i64 (3 : Int), .i .i64 (0 : Int), .i .i64 (w64 ((w64 (n7 + n9)) + (1 : Int))), .i .i64 (0 : Int), .s (⟨#[]⟩ : ByteArray)]] : Rw)
        chk ((flatR 5 y15) && decide (y9.length + y15.length ≤ lim)) <|
        k2 (y9 ++ y15)
       else
        k2 y9) KK (0 : Int) SV.undef
    else
     let y16 := (n1 != n5) || (n2 != n6)
     la26o100003 t51 t52 t53 t65 n1 n2 n3 n4 s1 l1 n5 n6 n7 n8 s2 l2 false l1 y4 y16 y5 n1 n2 n3 n4 s1 l1 n5 n6 n7 n8 s2 l2 ([] : Rw) l3
      (fun (n25 : Int) (b7 : Bool) =>
       let k3 := fun (l8 : Rw) =>
        let y17 := decide (n25 < (l1.length : Int))
        la26o100006 t51 t52 t53 t65 n1 n2 n3 n4 s1 l1 n5 n6 n7 n8 s2 l2 false l1 n25 y4 y16 y5 b7 y17 n1 n2 n3 n4 s1 l1 n5 n6 n7 n8 s2 l2 ([] : Rw)
         (fun (n26 : Int) (b8 : Bool) (l9 : Rw) =>
          let y18 := decide ((l9.length : Int) > (80 : Int))
          if y18 then
           some ([.one (.l ([] : Rw)), .one (.b false)], [])
          else
           let y19 := t53 n1 n2 n3 n4 s1 l1
           chk (okR zr53 zo53 y19) <|
           la26o100009 t51 t52 t53 t65 n1 n2 n3 n4 s1 l1 n5 n6 n7 n8 s2 l2 false l1 n25 n26 y4 y16 y5 b7 y17 b8 y18 n1 n2 n3 n4 s1 l1 n5 n6 n7 n8 s2 l2 ([] : Rw) l9
            (fun (n27 : Int) (b9 b10 b11 : Bool) (n28 n29 n30 n31 : Int) (s6 : ByteArray) (n32 n33 n34 n35 : Int) (s7 : ByteArray) (l10 : Rw) =>
             some ([.one (.l ([] : Rw)), .one (.b false)], []))
            (fun (n36 : Int) (v3 : SV) (b12 : Bool) (v4 : SV) (n37 n38 n39 n40 : Int) (s8 : ByteArray) (l11 : Rw) =>
             some ([.one (.l l9), .one (.b true)], [])) KK (0 : Int) SV.undef SV.undef SV.undef (asI (resC y19 0 0)) (asI (resC y19 0 1)) (asI (resC y19 0 2)) (asI (resC y19 0 3)) (asS (resC y19 0 4)) (asL (resC y19 0 5))) KK n25 SV.undef l8
       let y20 := decide (n25 < (l1.length : Int))
       if y20 then
        let y21 := ([[.i .i64 (3 : Int), .i .i64 (0 : Int), .i .i64 (w64 ((w64 (n7 + n25)) + (1 : Int))), .i .i64 (0 : Int), .s (⟨#[]⟩ : ByteArray)]] : Rw)
        chk ((flatR 5 y21) && decide (l3.length + y21.length ≤ lim)) <|
        k3 (l3 ++ y21)
       else
        k3 l3) KK (0 : Int) SV.undef
   let y22 := (n1 != n5) || (n2 != n6)
   if y22 then
    let y23 := ([[.i .i64 (1 : Int), .i .i64 n5, .i .i64 (0 : Int), .i .i64 n6, .s (⟨#[]⟩ : ByteArray)]] : Rw)
    chk ((flatR 5 y23) && decide (([] : Rw).length + y23.length ≤ lim)) <|
    k1 (([] : Rw) ++ y23)
   else
    k1 ([] : Rw)
def t26 : Y26 := ta26 t51 t52 t53 t65
def zr26 : List DV := [.one (.l []), .one (.b false)]
def zo26 : Rw := []
def A26 : List TA := [.agg [.i .i64, .i .i64, .i .i64, .i .i64, .s, .l], .agg [.i .i64, .i .i64, .i .i64, .i .i64, .s, .l]]
abbrev Y76 := Int → Int → Int → Rs
def t76 (n1 n2 n3 : Int) : Rs :=
  some ([.one (.b ((decide (n1 ≥ n2)) && (decide (n1 ≤ n3))))], [])
def zr76 : List DV := [.one (.b false)]
def zo76 : Rw := []
def A76 : List TA := [.one (.i .i64), .one (.i .i64), .one (.i .i64)]
abbrev Y56 := Int → Int → Int → Int → ByteArray → Rw → Rs
def la56o2 (t76 : Y76) (n1 n2 n3 n4 : Int) (s1 : ByteArray) (l1 : Rw) (b1 b2 b3 : Bool) (l2 : Rw) (n5 n6 n7 n8 n9 : Int) (s2 : ByteArray) (l3 : Rw) (q1 : Int → Int → Bool → Bool → Int → ByteArray → Rs) (q2 : Int → Int → Bool → SV → Rs) : Nat → Int → Int → SV → SV → Rs
  | 0, _, _, _, _ => none
  | m + 1, n10, n11, v1, v2 =>
    let y1 := decide (n11 < n5)
    if y1 then
     let y2 := l2.getD n11.toNat []
     chk (decide (0 ≤ n11) && decide (n11 < l2.length) && isRow z90 y2) <|
     let y3 := asI (nthD y2 0)
     let y4 := t76 y3 n10 n6
     let y5 := asS (nthD y2 1)
     let y6 := decide ((y5.size : Int) > (1600 : Int))
     chk ((okR zr76 zo76 y4) || !(!y6)) <|
     let y7 := y6 || (!(asB (resC y4 0 0)))
     if y7 then
      q1 n10 n11 y1 y7 y3 y5
     else
      la56o2 t76 n1 n2 n3 n4 s1 l1 b1 b2 b3 l2 n5 n6 n7 n8 n9 s2 l3 q1 q2 m y3 (w64 (n11 + (1 : Int))) (.d (.b y1)) (.d (.b y7))
    else
     q2 n10 n11 y1 (keepV [64] v2)
def ta56 (t76 : Y76) (n1 n2 n3 n4 : Int) (s1 : ByteArray) (l1 : Rw) : Rs :=
  let y1 := t76 n1 (0 : Int) (100000 : Int)
  chk (okR zr76 zo76 y1) <|
  let y2 := t76 n2 (-1 : Int) (4 : Int)
  let y3 := !(asB (resC y1 0 0))
  chk ((okR zr76 zo76 y2) || !(!y3)) <|
  let y4 := (y3 || (!(asB (resC y2 0 0)))) || (decide ((l1.length : Int) > (60 : Int)))
  if y4 then
   some ([.one (.b false)], [])
  else
   let y5 := t76 n3 (1 : Int) (100000 : Int)
   let y6 := !((n3 == (0 : Int)) && ((n4 == (0 : Int)) && ((s1.toList == (⟨#[]⟩ : ByteArray).toList) && true)))
   chk ((okR zr76 zo76 y5) || !y6) <|
   let y7 := t76 n4 (1 : Int) n1
   let y8 := !(asB (resC y5 0 0))
   chk ((okR zr76 zo76 y7) || !(y6 && (!y8))) <|
   let y9 := y6 && ((y8 || (!(asB (resC y7 0 0)))) || (decide ((s1.size : Int) > (20000 : Int))))
   if y9 then
    some ([.one (.b false)], [])
   else
    la56o2 t76 n1 n2 n3 n4 s1 l1 false y4 y9 l1 (l1.length : Int) n1 n2 n3 n4 s1 l1
     (fun (n5 n6 : Int) (b1 b2 : Bool) (n7 : Int) (s2 : ByteArray) =>
      some ([.one (.b false)], []))
     (fun (n8 n9 : Int) (b3 : Bool) (v1 : SV) =>
      some ([.one (.b (decide ((w64 (n3 + (l1.length : Int))) ≤ (100000 : Int))))], [])) KK (if n4 > (1 : Int) then n4 else (1 : Int)) (0 : Int) SV.undef SV.undef
def t56 : Y56 := ta56 t76
def zr56 : List DV := [.one (.b false)]
def zo56 : Rw := []
def A56 : List TA := [.agg [.i .i64, .i .i64, .i .i64, .i .i64, .s, .l]]
abbrev Y57 := Int → Int → Int → Int → ByteArray → Rw → Rs
def t57 (n1 n2 n3 n4 : Int) (s1 : ByteArray) (l1 : Rw) : Rs :=
  chk ((flatR 2 l1) && decide (l1.length ≤ lim)) <|
  some ([.agg [.i .i64 n1, .i .i64 n2, .i .i64 n3, .i .i64 n4, .s s1, .l l1]], [])
def zr57 : List DV := [.agg [.i .i64 0, .i .i64 0, .i .i64 0, .i .i64 0, .s ⟨#[]⟩, .l []]]
def zo57 : Rw := []
def A57 : List TA := [.agg [.i .i64, .i .i64, .i .i64, .i .i64, .s, .l]]
abbrev Y45 := Int → Int → Int → Int → ByteArray → Rs
def ta45 (t76 : Y76) (n1 n2 n3 n4 : Int) (s1 : ByteArray) : Rs :=
  if n1 == (1 : Int) then
   let y1 := t76 n2 (0 : Int) (100000 : Int)
   chk (okR zr76 zo76 y1) <|
   let y2 := t76 n4 (-1 : Int) (4 : Int)
   let y3 := asB (resC y1 0 0)
   chk ((okR zr76 zo76 y2) || !y3) <|
   some ([.one (.b ((y3 && (asB (resC y2 0 0))) && ((n1 == n1) && ((n2 == n2) && ((n3 == (0 : Int)) && ((n4 == n4) && ((s1.toList == (⟨#[]⟩ : ByteArray).toList) && true)))))))], [])
  else
   if n1 == (2 : Int) then
    let y4 := t76 n2 (1 : Int) (100000 : Int)
    chk (okR zr76 zo76 y4) <|
    let y5 := t76 n3 (1 : Int) (100000 : Int)
    let y6 := asB (resC y4 0 0)
    chk ((okR zr76 zo76 y5) || !y6) <|
    some ([.one (.b (((y6 && (asB (resC y5 0 0))) && (decide ((s1.size : Int) ≤ (1600 : Int)))) && ((n1 == n1) && ((n2 == n2) && ((n3 == n3) && ((n4 == (0 : Int)) && ((s1.toList == s1.toList) && true)))))))], [])
   else
    if n1 == (3 : Int) then
     let y7 := t76 n3 (1 : Int) (100000 : Int)
     chk (okR zr76 zo76 y7) <|
     some ([.one (.b ((asB (resC y7 0 0)) && ((n1 == n1) && ((n2 == (0 : Int)) && ((n3 == n3) && ((n4 == (0 : Int)) && ((s1.toList == (⟨#[]⟩ : ByteArray).toList) && true)))))))], [])
    else
     let k1 := fun (b1 : Bool) (n5 n6 : Int) (s2 : ByteArray) =>
      some ([.one (.b (b1 && ((n1 == n1) && ((n2 == n5) && ((n3 == n6) && ((n4 == (0 : Int)) && ((s1.toList == s2.toList) && true)))))))], [])
     if n1 == (4 : Int) then
      let y8 := t76 n2 (1 : Int) (100000 : Int)
      chk (okR zr76 zo76 y8) <|
      let y9 := t76 n3 (1 : Int) (100000 : Int)
      let y10 := asB (resC y8 0 0)
      chk ((okR zr76 zo76 y9) || !y10) <|
      k1 ((y10 && (asB (resC y9 0 0))) && (decide ((s1.size : Int) ≤ (20000 : Int)))) n2 n3 s1
     else
      k1 false (0 : Int) (0 : Int) (⟨#[]⟩ : ByteArray)
def t45 : Y45 := ta45 t76
def zr45 : List DV := [.one (.b false)]
def zo45 : Rw := []
def A45 : List TA := [.agg [.i .i64, .i .i64, .i .i64, .i .i64, .s]]
abbrev Y95 := Int → Int → Int → Int → ByteArray → Rw → Rs
def t95 (n1 n2 n3 n4 : Int) (s1 : ByteArray) (l1 : Rw) : Rs :=
  let y1 := (l1.length : Int)
  if y1 == (0 : Int) then
   some ([.one (.i .i64 n3), .one (.i .i64 n4)], [])
  else
   let y2 := w64 (y1 - (1 : Int))
   let y3 := l1.getD y2.toNat []
   chk (decide (0 ≤ y2) && decide (y2 < l1.length) && isRow z90 y3) <|
   some ([.one (.i .i64 (w64 (n3 + y1))), .one (.i .i64 (asI (nthD y3 0)))], [])
def zr95 : List DV := [.one (.i .i64 0), .one (.i .i64 0)]
def zo95 : Rw := []
def A95 : List TA := [.ptr [.i .i64, .i .i64, .i .i64, .i .i64, .s, .l]]
abbrev Y88 := Int → Int → Int → Int → ByteArray → Rw → Int → Int → Int → Int → ByteArray → Rs
def ta88 (t76 : Y76) (t95 : Y95) (n1 n2 n3 n4 : Int) (s1 : ByteArray) (l1 : Rw) (n5 n6 n7 n8 : Int) (s2 : ByteArray) : Rs :=
  let y1 := t95 n1 n2 n3 n4 s1 l1
  chk (okR zr95 zo95 y1) <|
  if n5 == (1 : Int) then
   some ([.one (.b ((decide (n6 > n1)) || ((n6 == n1) && ((n2 == (-1 : Int)) || (n2 == n8)))))], [])
  else
   if n5 == (2 : Int) then
    let y2 := t76 n6 (asI (resC y1 1 0)) n1
    let y3 := asI (resC y1 0 0)
    let y4 := (n7 == (w64 (y3 + (1 : Int)))) && (decide ((l1.length : Int) < (60 : Int)))
    chk ((okR zr76 zo76 y2) || !y4) <|
    some ([.one (.b (y4 && (asB (resC y2 0 0))))], [])
   else
    if n5 == (3 : Int) then
     let y5 := asI (resC y1 0 0)
     let y6 := t76 n7 (w64 (n3 + (1 : Int))) y5
     chk (okR zr76 zo76 y6) <|
     some ([.one (.b (asB (resC y6 0 0)))], [])
    else
     some ([.one (.b ((decide (n7 > n3)) && (decide (n6 ≤ n1))))], [])
def t88 : Y88 := ta88 t76 t95
def zr88 : List DV := [.one (.b false)]
def zo88 : Rw := []
def A88 : List TA := [.ptr [.i .i64, .i .i64, .i .i64, .i .i64, .s, .l], .agg [.i .i64, .i .i64, .i .i64, .i .i64, .s]]
abbrev Y58 := Int → Int → Int → Int → ByteArray → Rw → Int → Int → Int → Int → ByteArray → Rs
def ta58 (t45 : Y45) (t88 : Y88) (n1 n2 n3 n4 : Int) (s1 : ByteArray) (l1 : Rw) (n5 n6 n7 n8 : Int) (s2 : ByteArray) : Rs :=
  let y1 := t45 n5 n6 n7 n8 s2
  chk (okR zr45 zo45 y1) <|
  let y2 := t88 n1 n2 n3 n4 s1 l1 n5 n6 n7 n8 s2
  let y3 := !(asB (resC y1 0 0))
  chk ((okR zr88 zo88 y2) || !(!y3)) <|
  if y3 || (!(asB (resC y2 0 0))) then
   some ([.one (.b false)], [[.i .i64 n1, .i .i64 n2, .i .i64 n3, .i .i64 n4, .s s1, .l l1]])
  else
   if n5 == (1 : Int) then
    some ([.one (.b true)], [[.i .i64 n6, .i .i64 n8, .i .i64 n3, .i .i64 n4, .s s1, .l l1]])
   else
    if n5 == (2 : Int) then
     let y4 := ([[.i .i64 n6, .s s2]] : Rw)
     chk ((flatR 2 y4) && decide (l1.length + y4.length ≤ lim)) <|
     some ([.one (.b true)], [[.i .i64 n1, .i .i64 n2, .i .i64 n3, .i .i64 n4, .s s1, .l (l1 ++ y4)]])
    else
     if n5 == (3 : Int) then
      let y5 := w64 ((w64 (n7 - n3)) - (1 : Int))
      chk (decide (0 ≤ y5 ∧ y5 ≤ l1.length ∧ y5 = y5)) <|
      some ([.one (.b true)], [[.i .i64 n1, .i .i64 n2, .i .i64 n3, .i .i64 n4, .s s1, .l (l1.take y5.toNat)]])
     else
      let y6 := w64 (n7 - n3)
      let y7 := w64 (y6 - (1 : Int))
      let y8 := decide (y6 ≤ (l1.length : Int))
      chk ((decide (0 ≤ y7) && decide (y7 < l1.length)) || !y8) <|
      let y9 := l1.getD (y7.toNat) []
      chk ((decide (1 ≤ y9.length) && isF z3 0 y9) || !y8) <|
      if y8 && ((asI (nthD y9 0)) == n6) then
       chk (decide (0 ≤ y6 ∧ y6 ≤ l1.length)) <|
       let y10 := l1.drop y6.toNat
       chk ((flatR 2 y10) && decide (y10.length ≤ lim)) <|
       some ([.one (.b true)], [[.i .i64 n1, .i .i64 n2, .i .i64 n7, .i .i64 n6, .s s2, .l y10]])
      else
       some ([.one (.b true)], [[.i .i64 n1, .i .i64 n2, .i .i64 n7, .i .i64 n6, .s s2, .l ([] : Rw)]])
def t58 : Y58 := ta58 t45 t88
def zr58 : List DV := [.one (.b false)]
def zo58 : Rw := [[.i .i64 0, .i .i64 0, .i .i64 0, .i .i64 0, .s ⟨#[]⟩, .l []]]
def A58 : List TA := [.ptr [.i .i64, .i .i64, .i .i64, .i .i64, .s, .l], .agg [.i .i64, .i .i64, .i .i64, .i .i64, .s]]
abbrev Y90 := Int → Int → Int → Int → ByteArray → Rw → Rw → Bool → Int → Int → Int → Int → ByteArray → Rs
def ta90 (t58 : Y58) (n1 n2 n3 n4 : Int) (s1 : ByteArray) (l1 l2 : Rw) (b1 : Bool) (n5 n6 n7 n8 : Int) (s2 : ByteArray) : Rs :=
  if !b1 then
   let y1 := t58 n1 n2 n3 n4 s1 l1 n5 n6 n7 n8 s2
   chk (okR zr58 zo58 y1) <|
   let y2 := ([[.i .i64 n5, .i .i64 n6, .i .i64 n7, .i .i64 n8, .s s2]] : Rw)
   chk ((flatR 5 y2) && decide (l2.length + y2.length ≤ lim)) <|
   some ([], [[.i .i64 (asI (outC y1 0 0)), .i .i64 (asI (outC y1 0 1)), .i .i64 (asI (outC y1 0 2)), .i .i64 (asI (outC y1 0 3)), .s (asS (outC y1 0 4)), .l (asL (outC y1 0 5)), .l (l2 ++ y2), .b (b1 || (!(asB (resC y1 0 0))))]])
  else
   if !b1 then
    none
   else
    chk (b1) <|
    let y3 := ([[.i .i64 n5, .i .i64 n6, .i .i64 n7, .i .i64 n8, .s s2]] : Rw)
    chk ((flatR 5 y3) && decide (l2.length + y3.length ≤ lim)) <|
    some ([], [[.i .i64 n1, .i .i64 n2, .i .i64 n3, .i .i64 n4, .s s1, .l l1, .l (l2 ++ y3), .b true]])
def t90 : Y90 := ta90 t58
def zr90 : List DV := []
def zo90 : Rw := [[.i .i64 0, .i .i64 0, .i .i64 0, .i .i64 0, .s ⟨#[]⟩, .l [], .l [], .b false]]
def A90 : List TA := [.ptr [.i .i64, .i .i64, .i .i64, .i .i64, .s, .l, .l, .b], .agg [.i .i64, .i .i64, .i .i64, .i .i64, .s]]
abbrev Y66 := Int → Int → Int → Int → ByteArray → Rw → Int → Int → Int → Int → ByteArray → Rw → Rs
def la66o5 (t57 : Y57) (t90 : Y90) (n1 n2 n3 n4 : Int) (s1 : ByteArray) (l1 : Rw) (n5 n6 n7 n8 : Int) (s2 : ByteArray) (l2 : Rw) (b1 : Bool) (n9 : Int) (b2 b3 b4 b5 : Bool) (l3 : Rw) (n10 n11 n12 n13 n14 : Int) (s3 : ByteArray) (l4 : Rw) (n15 n16 n17 n18 : Int) (s4 : ByteArray) (l5 : Rw) (q1 : SV → Int → Bool → Int → Int → Int → Int → ByteArray → Bool → Rw → Rw → Rs) : Nat → SV → Int → SV → Int → Int → Int → Int → ByteArray → Bool → Rw → Rw → Rs
  | 0, _, _, _, _, _, _, _, _, _, _, _ => none
  | m + 1, v1, n19, v2, n20, n21, n22, n23, s5, b6, l6, l7 =>
    let y1 := decide (n19 < n10)
    if y1 then
     let y2 := l3.getD n19.toNat []
     chk (decide (0 ≤ n19) && decide (n19 < l3.length) && isRow z90 y2) <|
     let y3 := t90 n20 n21 n22 n23 s5 l6 l7 b6 (2 : Int) (asI (nthD y2 0)) (w64 ((w64 ((w64 (n17 + n9)) + n19)) + (1 : Int))) (0 : Int) (asS (nthD y2 1))
     chk (okR zr90 zo90 y3) <|
     la66o5 t57 t90 n1 n2 n3 n4 s1 l1 n5 n6 n7 n8 s2 l2 b1 n9 b2 b3 b4 b5 l3 n10 n11 n12 n13 n14 s3 l4 n15 n16 n17 n18 s4 l5 q1 m (.d (.i .i64 n19)) (w64 (n19 + (1 : Int))) (.d (.b y1)) (asI (outC y3 0 0)) (asI (outC y3 0 1)) (asI (outC y3 0 2)) (asI (outC y3 0 3)) (asS (outC y3 0 4)) (asB (outC y3 0 7)) (asL (outC y3 0 5)) (asL (outC y3 0 6))
    else
     q1 (keepV [128, 192, 832, 53254, 53255] v1) n19 y1 n20 n21 n22 n23 s5 b6 l6 l7
def la66o2 (t57 : Y57) (t90 : Y90) (n1 n2 n3 n4 : Int) (s1 : ByteArray) (l1 : Rw) (n5 n6 n7 n8 : Int) (s2 : ByteArray) (l2 : Rw) (b1 b2 b3 : Bool) (n9 n10 n11 n12 : Int) (s3 : ByteArray) (l3 : Rw) (n13 n14 n15 n16 : Int) (s4 : ByteArray) (l4 : Rw) (n17 n18 n19 n20 : Int) (s5 : ByteArray) (b4 : Bool) (l5 l6 : Rw) (q1 : Int → Bool → Rs) : Nat → Int → SV → Rs
  | 0, _, _ => none
  | m + 1, n21, v1 =>
    let y1 := (decide (n21 < (l5.length : Int))) && (decide (n21 < (l4.length : Int)))
    chk ((decide (0 ≤ n21) && decide (n21 < l5.length)) || !y1) <|
    let y2 := l5.getD (n21.toNat) []
    chk ((decide (2 ≤ y2.length) && isF z90 0 y2) || !y1) <|
    let y3 := l4.getD n21.toNat []
    chk ((decide (0 ≤ n21) && decide (n21 < l4.length) && isRow z90 y3) || !y1) <|
    let y4 := y1 && (((asI (nthD y2 0)) == (asI (nthD y3 0))) && (((asS (nthD y2 1)).toList == (asS (nthD y3 1)).toList) && true))
    if y4 then
     la66o2 t57 t90 n1 n2 n3 n4 s1 l1 n5 n6 n7 n8 s2 l2 b1 b2 b3 n9 n10 n11 n12 s3 l3 n13 n14 n15 n16 s4 l4 n17 n18 n19 n20 s5 b4 l5 l6 q1 m (w64 (n21 + (1 : Int))) (.d (.b y4))
    else
     q1 n21 y4
def ta66 (t57 : Y57) (t90 : Y90) (n1 n2 n3 n4 : Int) (s1 : ByteArray) (l1 : Rw) (n5 n6 n7 n8 : Int) (s2 : ByteArray) (l2 : Rw) : Rs :=
  let y1 := t57 n1 n2 n3 n4 s1 l1
  chk (okR zr57 zo57 y1) <|
  let k1 := fun (n9 n10 n11 n12 : Int) (s3 : ByteArray) (b1 : Bool) (l3 l4 : Rw) =>
   let k2 := fun (n13 n14 n15 n16 : Int) (s4 : ByteArray) (b2 : Bool) (l5 l6 : Rw) =>
    let y2 := (n1 != n5) || (n2 != n6)
    let y3 := !((n3 == n7) && ((n4 == n8) && ((s1.toList == s2.toList) && true)))
    la66o2 t57 t90 n1 n2 n3 n4 s1 l1 n5 n6 n7 n8 s2 l2 false y2 y3 n1 n2 n3 n4 s1 l1 n5 n6 n7 n8 s2 l2 n13 n14 n15 n16 s4 b2 l5 l6
     (fun (n17 : Int) (b3 : Bool) =>
      let k3 := fun (n18 n19 n20 n21 : Int) (s5 : ByteArray) (b4 : Bool) (l7 l8 : Rw) =>
       chk (decide (0 ≤ n17 ∧ n17 ≤ l2.length ∧ (l2.getD 0 z90).length = z90.length)) <|
       let y4 := decide (n17 < (l5.length : Int))
       let y5 := l2.drop n17.toNat
       la66o5 t57 t90 n1 n2 n3 n4 s1 l1 n5 n6 n7 n8 s2 l2 false n17 y2 y3 b3 y4 y5 (y5.length : Int) n1 n2 n3 n4 s1 l1 n5 n6 n7 n8 s2 l2
        (fun (v1 : SV) (n22 : Int) (b5 : Bool) (n23 n24 n25 n26 : Int) (s6 : ByteArray) (b6 : Bool) (l9 l10 : Rw) =>
         if b6 || (decide ((l10.length : Int) > (80 : Int))) then
          some ([.one (.l ([] : Rw)), .one (.b false)], [])
         else
          some ([.one (.l l10), .one (.b true)], [])) KK SV.undef (0 : Int) SV.undef n18 n19 n20 n21 s5 b4 l7 l8
      let y6 := decide (n17 < (l5.length : Int))
      if y6 then
       let y7 := t90 n13 n14 n15 n16 s4 l5 l6 b2 (3 : Int) (0 : Int) (w64 ((w64 (n7 + n17)) + (1 : Int))) (0 : Int) (⟨#[]⟩ : ByteArray)
       chk (okR zr90 zo90 y7) <|
       k3 (asI (outC y7 0 0)) (asI (outC y7 0 1)) (asI (outC y7 0 2)) (asI (outC y7 0 3)) (asS (outC y7 0 4)) (asB (outC y7 0 7)) (asL (outC y7 0 5)) (asL (outC y7 0 6))
      else
       k3 n13 n14 n15 n16 s4 b2 l5 l6) KK (0 : Int) SV.undef
   let y8 := !((n3 == n7) && ((n4 == n8) && ((s1.toList == s2.toList) && true)))
   if y8 then
    let y9 := t90 n9 n10 n11 n12 s3 l3 l4 b1 (4 : Int) n8 n7 (0 : Int) s2
    chk (okR zr90 zo90 y9) <|
    k2 (asI (outC y9 0 0)) (asI (outC y9 0 1)) (asI (outC y9 0 2)) (asI (outC y9 0 3)) (asS (outC y9 0 4)) (asB (outC y9 0 7)) (asL (outC y9 0 5)) (asL (outC y9 0 6))
   else
    k2 n9 n10 n11 n12 s3 b1 l3 l4
  let y10 := (n1 != n5) || (n2 != n6)
  if y10 then
   let y11 := asI (resC y1 0 0)
   let y12 := asI (resC y1 0 1)
   let y13 := asI (resC y1 0 2)
   let y14 := asI (resC y1 0 3)
   let y15 := asS (resC y1 0 4)
   let y16 := asL (resC y1 0 5)
   let y17 := t90 y11 y12 y13 y14 y15 y16 ([] : Rw) false (1 : Int) n5 (0 : Int) n6 (⟨#[]⟩ : ByteArray)
   chk (okR zr90 zo90 y17) <|
   k1 (asI (outC y17 0 0)) (asI (outC y17 0 1)) (asI (outC y17 0 2)) (asI (outC y17 0 3)) (asS (outC y17 0 4)) (asB (outC y17 0 7)) (asL (outC y17 0 5)) (asL (outC y17 0 6))
  else
   let y18 := asI (resC y1 0 0)
   let y19 := asI (resC y1 0 1)
   let y20 := asI (resC y1 0 2)
   let y21 := asI (resC y1 0 3)
   let y22 := asS (resC y1 0 4)
   let y23 := asL (resC y1 0 5)
   k1 y18 y19 y20 y21 y22 false y23 ([] : Rw)
def t66 : Y66 := ta66 t57 t90
def zr66 : List DV := [.one (.l []), .one (.b false)]
def zo66 : Rw := []
def A66 : List TA := [.agg [.i .i64, .i .i64, .i .i64, .i .i64, .s, .l], .agg [.i .i64, .i .i64, .i .i64, .i .i64, .s, .l]]
abbrev Y27 := Int → Int → Int → Int → ByteArray → Rw → Int → Int → Int → Int → ByteArray → Rw → Rs
def ta27 (t56 : Y56) (t66 : Y66) (n1 n2 n3 n4 : Int) (s1 : ByteArray) (l1 : Rw) (n5 n6 n7 n8 : Int) (s2 : ByteArray) (l2 : Rw) : Rs :=
  let y1 := t56 n1 n2 n3 n4 s1 l1
  chk (okR zr56 zo56 y1) <|
  let y2 := t56 n5 n6 n7 n8 s2 l2
  let y3 := !(asB (resC y1 0 0))
  chk ((okR zr56 zo56 y2) || !(!y3)) <|
  if y3 || (!(asB (resC y2 0 0))) then
   some ([.one (.l ([] : Rw)), .one (.b false)], [])
  else
   let y4 := t66 n1 n2 n3 n4 s1 l1 n5 n6 n7 n8 s2 l2
   chk (okR zr66 zo66 y4) <|
   some ([.one (.l (asL (resC y4 0 0))), .one (.b (asB (resC y4 1 0)))], [])
def t27 : Y27 := ta27 t56 t66
def zr27 : List DV := [.one (.l []), .one (.b false)]
def zo27 : Rw := []
def A27 : List TA := [.agg [.i .i64, .i .i64, .i .i64, .i .i64, .s, .l], .agg [.i .i64, .i .i64, .i .i64, .i .i64, .s, .l]]
abbrev Y67 := Int → Int → Int → Int → ByteArray → Int → Int → Int → Int → ByteArray → Rs
def t67 (n1 n2 n3 n4 : Int) (s1 : ByteArray) (n5 n6 n7 n8 : Int) (s2 : ByteArray) : Rs :=
  if n1 != n5 then
   some ([.one (.b false)], [])
  else
   if n2 != n6 then
    some ([.one (.b false)], [])
   else
    if n3 != n7 then
     some ([.one (.b false)], [])
    else
     if n4 != n8 then
      some ([.one (.b false)], [])
     else
      if !(s1.toList == s2.toList) then
       some ([.one (.b false)], [])
      else
       some ([.one (.b true)], [])
def zr67 : List DV := [.one (.b false)]
def zo67 : Rw := []
def A67 : List TA := [.agg [.i .i64, .i .i64, .i .i64, .i .i64, .s], .agg [.i .i64, .i .i64, .i .i64, .i .i64, .s]]
abbrev Y28 := Rw → Rw → Rs
def la28o1 (t67 : Y67) (l1 l2 : Rw) (b1 b2 : Bool) (q1 : Int → Bool → Bool → Rs) (q2 : Int → Bool → SV → Rs) : Nat → Int → SV → SV → Rs
  | 0, _, _, _ => none
  | m + 1, n1, v1, v2 =>
    let y1 := decide (n1 < (l1.length : Int))
    if y1 then
     let y2 := l1.getD n1.toNat []
     chk (decide (0 ≤ n1) && decide (n1 < l1.length) && isRow z38 y2) <|
     let y3 := l2.getD n1.toNat []
     chk (decide (0 ≤ n1) && decide (n1 < l2.length) && isRow z38 y3) <|
     let y4 := t67 (asI (nthD y2 0)) (asI (nthD y2 1)) (asI (nthD y2 2)) (asI (nthD y2 3)) (asS (nthD y2 4)) (asI (nthD y3 0)) (asI (nthD y3 1)) (asI (nthD y3 2)) (asI (nthD y3 3)) (asS (nthD y3 4))
     chk (okR zr67 zo67 y4) <|
     let y5 := !(asB (resC y4 0 0))
     if y5 then
      q1 n1 y1 y5
     else
      la28o1 t67 l1 l2 b1 b2 q1 q2 m (w64 (n1 + (1 : Int))) (.d (.b y1)) (.d (.b y5))
    else
     q2 n1 y1 (keepV [] v2)
def ta28 (t67 : Y67) (l1 l2 : Rw) : Rs :=
  let y1 := (l1.length : Int) != (l2.length : Int)
  if y1 then
   some ([.one (.b false)], [])
  else
   la28o1 t67 l1 l2 false y1
    (fun (n1 : Int) (b1 b2 : Bool) =>
     some ([.one (.b false)], []))
    (fun (n2 : Int) (b3 : Bool) (v1 : SV) =>
     some ([.one (.b true)], [])) KK (0 : Int) SV.undef SV.undef
def t28 : Y28 := ta28 t67
def zr28 : List DV := [.one (.b false)]
def zo28 : Rw := []
def A28 : List TA := [.one (.l), .one (.l)]
abbrev Y59 := Int → Int → ByteArray → Int → Int → ByteArray → Rs
def t59 (n1 n2 : Int) (s1 : ByteArray) (n3 n4 : Int) (s2 : ByteArray) : Rs :=
  if n1 != n3 then
   some ([.one (.b false)], [])
  else
   if n2 != n4 then
    some ([.one (.b false)], [])
   else
    if !(s1.toList == s2.toList) then
     some ([.one (.b false)], [])
    else
     some ([.one (.b true)], [])
def zr59 : List DV := [.one (.b false)]
def zo59 : Rw := []
def A59 : List TA := [.agg [.i .i64, .i .i64, .s], .agg [.i .i64, .i .i64, .s]]
abbrev Y89 := Int → ByteArray → Int → ByteArray → Rs
def t89 (n1 : Int) (s1 : ByteArray) (n2 : Int) (s2 : ByteArray) : Rs :=
  if n1 != n2 then
   some ([.one (.b false)], [])
  else
   if !(s1.toList == s2.toList) then
    some ([.one (.b false)], [])
   else
    some ([.one (.b true)], [])
def zr89 : List DV := [.one (.b false)]
def zo89 : Rw := []
def A89 : List TA := [.agg [.i .i64, .s], .agg [.i .i64, .s]]
abbrev Y60 := Rw → Rw → Rs
def la60o1 (t89 : Y89) (l1 l2 : Rw) (b1 b2 : Bool) (q1 : Int → Bool → Bool → Rs) (q2 : Int → Bool → SV → Rs) : Nat → Int → SV → SV → Rs
  | 0, _, _, _ => none
  | m + 1, n1, v1, v2 =>
    let y1 := decide (n1 < (l1.length : Int))
    if y1 then
     let y2 := l1.getD n1.toNat []
     chk (decide (0 ≤ n1) && decide (n1 < l1.length) && isRow z90 y2) <|
     let y3 := l2.getD n1.toNat []
     chk (decide (0 ≤ n1) && decide (n1 < l2.length) && isRow z90 y3) <|
     let y4 := t89 (asI (nthD y2 0)) (asS (nthD y2 1)) (asI (nthD y3 0)) (asS (nthD y3 1))
     chk (okR zr89 zo89 y4) <|
     let y5 := !(asB (resC y4 0 0))
     if y5 then
      q1 n1 y1 y5
     else
      la60o1 t89 l1 l2 b1 b2 q1 q2 m (w64 (n1 + (1 : Int))) (.d (.b y1)) (.d (.b y5))
    else
     q2 n1 y1 (keepV [] v2)
def ta60 (t89 : Y89) (l1 l2 : Rw) : Rs :=
  let y1 := (l1.length : Int) != (l2.length : Int)
  if y1 then
   some ([.one (.b false)], [])
  else
   la60o1 t89 l1 l2 false y1
    (fun (n1 : Int) (b1 b2 : Bool) =>
     some ([.one (.b false)], []))
    (fun (n2 : Int) (b3 : Bool) (v1 : SV) =>
     some ([.one (.b true)], [])) KK (0 : Int) SV.undef SV.undef
def t60 : Y60 := ta60 t89
def zr60 : List DV := [.one (.b false)]
def zo60 : Rw := []
def A60 : List TA := [.one (.l), .one (.l)]
abbrev Y18 := Int → Int → Int → Int → ByteArray → Rw → Int → Int → Int → Int → ByteArray → Rw → Rs
def ta18 (t59 : Y59) (t60 : Y60) (n1 n2 n3 n4 : Int) (s1 : ByteArray) (l1 : Rw) (n5 n6 n7 n8 : Int) (s2 : ByteArray) (l2 : Rw) : Rs :=
  if n1 != n5 then
   some ([.one (.b false)], [])
  else
   if n2 != n6 then
    some ([.one (.b false)], [])
   else
    let y1 := t59 n3 n4 s1 n7 n8 s2
    chk (okR zr59 zo59 y1) <|
    if !(asB (resC y1 0 0)) then
     some ([.one (.b false)], [])
    else
     chk (okR zr60 zo60 (t60 l1 l2)) <|
     if !(asB (resC (t60 l1 l2) 0 0)) then
      some ([.one (.b false)], [])
     else
      some ([.one (.b true)], [])
def t18 : Y18 := ta18 t59 t60
def zr18 : List DV := [.one (.b false)]
def zo18 : Rw := []
def A18 : List TA := [.agg [.i .i64, .i .i64, .i .i64, .i .i64, .s, .l], .agg [.i .i64, .i .i64, .i .i64, .i .i64, .s, .l]]
abbrev Y68 := Int → Rs
def l68o1 (s1 : ByteArray) (b1 : Bool) (q1 : Int → ByteArray → Bool → Rs) : Nat → Int → ByteArray → SV → Rs
  | 0, _, _, _ => none
  | m + 1, n1, s2, v1 =>
    let y1 := decide (n1 > (0 : Int))
    if y1 then
     let y2 := ([[.i .u8 (IntKind.wrap .u8 (w64 ((48 : Int) + (n1.tmod (10 : Int)))))]] : Rw)
     chk (isBytes y2) <|
     let y3 := ⟨(bytesD y2).toArray⟩
     chk (decide (y3.size + s2.size ≤ lim)) <|
     l68o1 s1 b1 q1 m (w64 (n1.tdiv (10 : Int))) (y3 ++ s2) (.d (.b y1))
    else
     q1 n1 s2 y1
def t68 (n1 : Int) : Rs :=
  let y1 := decide (n1 ≤ (0 : Int))
  if y1 then
   some ([.one (.s (⟨#[109, 48]⟩ : ByteArray))], [])
  else
   l68o1 (⟨#[]⟩ : ByteArray) y1
    (fun (n2 : Int) (s1 : ByteArray) (b1 : Bool) =>
     chk (decide ((⟨#[109]⟩ : ByteArray).size + s1.size ≤ lim)) <|
     some ([.one (.s ((⟨#[109]⟩ : ByteArray) ++ s1))], [])) KK n1 (⟨#[]⟩ : ByteArray) SV.undef
def zr68 : List DV := [.one (.s ⟨#[]⟩)]
def zo68 : Rw := []
def A68 : List TA := [.one (.i .i64)]
abbrev Y61 := Rw → Int → Rs
def la61o0 (t68 : Y68) (n1 : Int) (q1 : Int → Int → Bool → Rw → Rs) : Nat → Int → Int → SV → Rw → Rs
  | 0, _, _, _, _ => none
  | m + 1, n2, n3, v1, l1 =>
    let y1 := decide (n3 < (l1.length : Int))
    if y1 then
     chk (decide (0 ≤ n3) && decide (n3 < l1.length)) <|
     chk (decide (1 ≤ 2 ∧ (n3.toNat) < l1.length)) <|
     let y2 := w64 (n2 + (1 : Int))
     let y3 := t68 y2
     chk (okR zr68 zo68 y3) <|
     let y4 := stR l1 (n3.toNat) 0 [.i .i64 n2]
     chk (decide (0 ≤ n3) && decide (n3 < y4.length)) <|
     chk (decide (2 ≤ 2 ∧ (n3.toNat) < y4.length)) <|
     la61o0 t68 n1 q1 m (w64 (y2 + (1 : Int))) (w64 (n3 + (1 : Int))) (.d (.b y1)) (stR y4 (n3.toNat) 1 [.s (asS (resC y3 0 0))])
    else
     q1 n2 n3 y1 l1
def ta61 (t68 : Y68) (l1 : Rw) (n1 : Int) : Rs :=
  la61o0 t68 (0 : Int)
   (fun (n2 n3 : Int) (b1 : Bool) (l2 : Rw) =>
    some ([.one (.i .i64 n2)], [[.l l2]])) KK n1 (0 : Int) SV.undef l1
def t61 : Y61 := ta61 t68
def zr61 : List DV := [.one (.i .i64 0)]
def zo61 : Rw := [[.l []]]
def A61 : List TA := [.one (.l), .one (.i .i64)]
abbrev Y19 := Int → Int → Int → Int → ByteArray → Rw → Int → Rs
def ta19 (t61 : Y61) (n1 n2 n3 n4 : Int) (s1 : ByteArray) (l1 : Rw) (n5 : Int) : Rs :=
  chk (okR zr61 zo61 (t61 l1 n5)) <|
  some ([.one (.i .i64 (asI (resC (t61 l1 n5) 0 0)))], [[.i .i64 n1, .i .i64 n2, .i .i64 n3, .i .i64 n4, .s s1, .l (asL (outC (t61 l1 n5) 0 0))]])
def t19 : Y19 := ta19 t61
def zr19 : List DV := [.one (.i .i64 0)]
def zo19 : Rw := [[.i .i64 0, .i .i64 0, .i .i64 0, .i .i64 0, .s ⟨#[]⟩, .l []]]
def A19 : List TA := [.agg [.i .i64, .i .i64, .i .i64, .i .i64, .s, .l], .one (.i .i64)]
abbrev Y29 := Rw → Int → Rs
def la29o0 (t68 : Y68) (n1 : Int) (q1 : Int → Int → Bool → Rw → Rs) : Nat → Int → Int → SV → Rw → Rs
  | 0, _, _, _, _ => none
  | m + 1, n2, n3, v1, l1 =>
    let y1 := decide (n3 < (l1.length : Int))
    if y1 then
     chk (decide (0 ≤ n3) && decide (n3 < l1.length)) <|
     chk (decide (1 ≤ 5 ∧ (n3.toNat) < l1.length)) <|
     let y2 := stR l1 (n3.toNat) 0 [.i .i64 n2]
     chk (decide (0 ≤ n3) && decide (n3 < y2.length)) <|
     chk (decide (2 ≤ 5 ∧ (n3.toNat) < y2.length)) <|
     let y3 := w64 (n2 + (1 : Int))
     let y4 := stR y2 (n3.toNat) 1 [.i .i64 y3]
     chk (decide (0 ≤ n3) && decide (n3 < y4.length)) <|
     chk (decide (3 ≤ 5 ∧ (n3.toNat) < y4.length)) <|
     let y5 := w64 (y3 + (1 : Int))
     let y6 := stR y4 (n3.toNat) 2 [.i .i64 y5]
     chk (decide (0 ≤ n3) && decide (n3 < y6.length)) <|
     chk (decide (4 ≤ 5 ∧ (n3.toNat) < y6.length)) <|
     let y7 := w64 (y5 + (1 : Int))
     let y8 := w64 (y7 + (1 : Int))
     let y9 := t68 y8
     chk (okR zr68 zo68 y9) <|
     let y10 := stR y6 (n3.toNat) 3 [.i .i64 y7]
     chk (decide (0 ≤ n3) && decide (n3 < y10.length)) <|
     chk (decide (5 ≤ 5 ∧ (n3.toNat) < y10.length)) <|
     la29o0 t68 n1 q1 m (w64 (y8 + (1 : Int))) (w64 (n3 + (1 : Int))) (.d (.b y1)) (stR y10 (n3.toNat) 4 [.s (asS (resC y9 0 0))])
    else
     q1 n2 n3 y1 l1
def ta29 (t68 : Y68) (l1 : Rw) (n1 : Int) : Rs :=
  la29o0 t68 (0 : Int)
   (fun (n2 n3 : Int) (b1 : Bool) (l2 : Rw) =>
    some ([.one (.i .i64 n2)], [[.l l2]])) KK n1 (0 : Int) SV.undef l1
def t29 : Y29 := ta29 t68
def zr29 : List DV := [.one (.i .i64 0)]
def zo29 : Rw := [[.l []]]
def A29 : List TA := [.one (.l), .one (.i .i64)]
abbrev Y30 := Rw → Int → Rs
def la30o0 (t68 : Y68) (l1 : Rw) (n1 : Int) (q1 : Int → Int → Bool → Bool → SV → SV → SV → SV → Rs) (q2 : Int → Int → Bool → Bool → Bool → SV → SV → SV → Rs) (q3 : Int → Int → Bool → Bool → Bool → Bool → SV → SV → Rs) (q4 : Int → Int → Bool → Bool → Bool → Bool → Bool → SV → Rs) (q5 : Int → Int → Bool → Bool → Bool → Bool → Bool → Bool → Rs) (q6 : Int → Int → Bool → SV → SV → SV → SV → SV → Rs) : Nat → Int → Int → SV → SV → SV → SV → SV → SV → Rs
  | 0, _, _, _, _, _, _, _, _ => none
  | m + 1, n2, n3, v1, v2, v3, v4, v5, v6 =>
    let y1 := decide (n3 < (l1.length : Int))
    if y1 then
     let y2 := l1.getD n3.toNat []
     chk (decide (0 ≤ n3) && decide (n3 < l1.length) && isRow z38 y2) <|
     let y3 := (asI (nthD y2 0)) != n2
     if y3 then
      q1 n2 n3 y1 y3 v3 v4 v5 v6
     else
      let y4 := l1.getD n3.toNat []
      chk (decide (0 ≤ n3) && decide (n3 < l1.length) && isRow z38 y4) <|
      let y5 := w64 (n2 + (1 : Int))
      let y6 := (asI (nthD y4 1)) != y5
      if y6 then
       q2 y5 n3 y1 y3 y6 v4 v5 v6
      else
       let y7 := l1.getD n3.toNat []
       chk (decide (0 ≤ n3) && decide (n3 < l1.length) && isRow z38 y7) <|
       let y8 := w64 (y5 + (1 : Int))
       let y9 := (asI (nthD y7 2)) != y8
       if y9 then
        q3 y8 n3 y1 y3 y6 y9 v5 v6
       else
        let y10 := l1.getD n3.toNat []
        chk (decide (0 ≤ n3) && decide (n3 < l1.length) && isRow z38 y10) <|
        let y11 := w64 (y8 + (1 : Int))
        let y12 := (asI (nthD y10 3)) != y11
        if y12 then
         q4 y11 n3 y1 y3 y6 y9 y12 v6
        else
         let y13 := l1.getD n3.toNat []
         chk (decide (0 ≤ n3) && decide (n3 < l1.length) && isRow z38 y13) <|
         let y14 := w64 (y11 + (1 : Int))
         let y15 := t68 y14
         chk (okR zr68 zo68 y15) <|
         let y16 := !((asS (nthD y13 4)).toList == (asS (resC y15 0 0)).toList)
         if y16 then
          q5 y14 n3 y1 y3 y6 y9 y12 y16
         else
          la30o0 t68 l1 n1 q1 q2 q3 q4 q5 q6 m (w64 (y14 + (1 : Int))) (w64 (n3 + (1 : Int))) (.d (.b y1)) (.d (.b y3)) (.d (.b y6)) (.d (.b y9)) (.d (.b y12)) (.d (.b y16))
    else
     q6 n2 n3 y1 (keepV [] v2) (keepV [] v3) (keepV [] v4) (keepV [] v5) (keepV [] v6)
def ta30 (t68 : Y68) (l1 : Rw) (n1 : Int) : Rs :=
  la30o0 t68 l1 (0 : Int)
   (fun (n2 n3 : Int) (b1 b2 : Bool) (v1 v2 v3 v4 : SV) =>
    some ([.one (.i .i64 (-1 : Int))], []))
   (fun (n4 n5 : Int) (b3 b4 b5 : Bool) (v5 v6 v7 : SV) =>
    some ([.one (.i .i64 (-1 : Int))], []))
   (fun (n6 n7 : Int) (b6 b7 b8 b9 : Bool) (v8 v9 : SV) =>
    some ([.one (.i .i64 (-1 : Int))], []))
   (fun (n8 n9 : Int) (b10 b11 b12 b13 b14 : Bool) (v10 : SV) =>
    some ([.one (.i .i64 (-1 : Int))], []))
   (fun (n10 n11 : Int) (b15 b16 b17 b18 b19 b20 : Bool) =>
    some ([.one (.i .i64 (-1 : Int))], []))
   (fun (n12 n13 : Int) (b21 : Bool) (v11 v12 v13 v14 v15 : SV) =>
    some ([.one (.i .i64 n12)], [])) KK n1 (0 : Int) SV.undef SV.undef SV.undef SV.undef SV.undef SV.undef
def t30 : Y30 := ta30 t68
def zr30 : List DV := [.one (.i .i64 0)]
def zo30 : Rw := []
def A30 : List TA := [.one (.l), .one (.i .i64)]
abbrev Y5 := Int → Int → Int → Int → ByteArray → Rw → Int → Int → Int → Int → ByteArray → Rw → Rs
def ta5 (t12 : Y12) (t15 : Y15) (t18 : Y18) (t19 : Y19) (t26 : Y26) (t27 : Y27) (t28 : Y28) (t29 : Y29) (t30 : Y30) (n1 n2 n3 n4 : Int) (s1 : ByteArray) (l1 : Rw) (n5 n6 n7 n8 : Int) (s2 : ByteArray) (l2 : Rw) : Rs :=
  let y1 := t12 n1 n2 n3 n4 s1 l1 (1048576 : Int)
  chk (okR zr12 zo12 y1) <|
  let y2 := asI (resC y1 0 0)
  if decide (y2 < (0 : Int)) then
   some ([.one (.b true)], [])
  else
   let y3 := t12 n5 n6 n7 n8 s2 l2 y2
   chk (okR zr12 zo12 y3) <|
   if decide ((asI (resC y3 0 0)) < (0 : Int)) then
    some ([.one (.b true)], [])
   else
    let y4 := t15 n1 n2 n3 n4 s1 l1
    chk (okR zr15 zo15 y4) <|
    let y5 := t15 n5 n6 n7 n8 s2 l2
    chk (okR zr15 zo15 y5) <|
    let y6 := t26 (asI (resC y4 0 0)) (asI (resC y4 0 1)) (asI (resC y4 0 2)) (asI (resC y4 0 3)) (asS (resC y4 0 4)) (asL (resC y4 0 5)) (asI (resC y5 0 0)) (asI (resC y5 0 1)) (asI (resC y5 0 2)) (asI (resC y5 0 3)) (asS (resC y5 0 4)) (asL (resC y5 0 5))
    chk (okR zr26 zo26 y6) <|
    let y7 := t15 n1 n2 n3 n4 s1 l1
    chk (okR zr15 zo15 y7) <|
    let y8 := t15 n5 n6 n7 n8 s2 l2
    chk (okR zr15 zo15 y8) <|
    let y9 := asI (resC y7 0 0)
    let y10 := asI (resC y7 0 1)
    let y11 := asI (resC y7 0 2)
    let y12 := asI (resC y7 0 3)
    let y13 := asS (resC y7 0 4)
    let y14 := asL (resC y7 0 5)
    let y15 := asI (resC y8 0 0)
    let y16 := asI (resC y8 0 1)
    let y17 := asI (resC y8 0 2)
    let y18 := asI (resC y8 0 3)
    let y19 := asS (resC y8 0 4)
    let y20 := asL (resC y8 0 5)
    let y21 := t27 y9 y10 y11 y12 y13 y14 y15 y16 y17 y18 y19 y20
    chk (okR zr27 zo27 y21) <|
    let y22 := asL (resC y21 0 0)
    let y23 := asL (resC y6 0 0)
    let y24 := t28 y22 y23
    chk (okR zr28 zo28 y24) <|
    let y25 := asB (resC y21 1 0)
    let y26 := asB (resC y6 1 0)
    if (!(asB (resC y24 0 0))) || (!(y25 == y26)) then
     some ([.one (.b false)], [])
    else
     let y27 := t15 n1 n2 n3 n4 s1 l1
     chk (okR zr15 zo15 y27) <|
     let y28 := t18 y9 y10 y11 y12 y13 y14 (asI (resC y27 0 0)) (asI (resC y27 0 1)) (asI (resC y27 0 2)) (asI (resC y27 0 3)) (asS (resC y27 0 4)) (asL (resC y27 0 5))
     chk (okR zr18 zo18 y28) <|
     if !(asB (resC y28 0 0)) then
      some ([.one (.b false)], [])
     else
      let y29 := t15 n5 n6 n7 n8 s2 l2
      chk (okR zr15 zo15 y29) <|
      let y30 := t18 y15 y16 y17 y18 y19 y20 (asI (resC y29 0 0)) (asI (resC y29 0 1)) (asI (resC y29 0 2)) (asI (resC y29 0 3)) (asS (resC y29 0 4)) (asL (resC y29 0 5))
      chk (okR zr18 zo18 y30) <|
      if !(asB (resC y30 0 0)) then
       some ([.one (.b false)], [])
      else
       let y31 := t19 y9 y10 y11 y12 y13 y14 (1 : Int)
       chk (okR zr19 zo19 y31) <|
       let y32 := t19 y15 y16 y17 y18 y19 y20 (asI (resC y31 0 0))
       chk (okR zr19 zo19 y32) <|
       let y33 := t28 y22 y23
       let y34 := decide ((asI (resC y32 0 0)) < (0 : Int))
       chk ((okR zr28 zo28 y33) || !(!y34)) <|
       if (y34 || (!(asB (resC y33 0 0)))) || (!(y25 == y26)) then
        some ([.one (.b false)], [])
       else
        let y35 := t29 y22 (1 : Int)
        chk (okR zr29 zo29 y35) <|
        let y36 := asL (outC y35 0 0)
        let y37 := t30 y36 (1 : Int)
        chk (okR zr30 zo30 y37) <|
        let y38 := asI (resC y37 0 0)
        if decide (y38 < (0 : Int)) then
         some ([.one (.b false)], [])
        else
         let y39 := asI (resC y35 0 0)
         if y38 != y39 then
          some ([.one (.b false)], [])
         else
          let y40 := t15 n1 n2 n3 n4 s1 l1
          chk (okR zr15 zo15 y40) <|
          let y41 := t15 n5 n6 n7 n8 s2 l2
          chk (okR zr15 zo15 y41) <|
          let y42 := t27 (asI (resC y40 0 0)) (asI (resC y40 0 1)) (asI (resC y40 0 2)) (asI (resC y40 0 3)) (asS (resC y40 0 4)) (asL (resC y40 0 5)) (asI (resC y41 0 0)) (asI (resC y41 0 1)) (asI (resC y41 0 2)) (asI (resC y41 0 3)) (asS (resC y41 0 4)) (asL (resC y41 0 5))
          chk (okR zr27 zo27 y42) <|
          let y43 := t28 (asL (resC y42 0 0)) y23
          chk (okR zr28 zo28 y43) <|
          if (!(asB (resC y43 0 0))) || (!((asB (resC y42 1 0)) == y26)) then
           some ([.one (.b false)], [])
          else
           let y44 := t30 y36 (1 : Int)
           chk (okR zr30 zo30 y44) <|
           let y45 := asI (resC y44 0 0)
           if decide (y45 < (0 : Int)) then
            some ([.one (.b false)], [])
           else
            if y45 != y39 then
             some ([.one (.b false)], [])
            else
             some ([.one (.b true)], [])
def t5 : Y5 := ta5 t12 t15 t18 t19 t26 t27 t28 t29 t30
def zr5 : List DV := [.one (.b false)]
def zo5 : Rw := []
def A5 : List TA := [.agg [.i .i64, .i .i64, .i .i64, .i .i64, .s, .l], .agg [.i .i64, .i .i64, .i .i64, .i .i64, .s, .l]]
end
end Go.Den.L5
