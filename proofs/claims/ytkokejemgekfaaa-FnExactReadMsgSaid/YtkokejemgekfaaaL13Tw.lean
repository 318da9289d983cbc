/- What the functions come to, as plain Lean. Printed by tw.py. -/
import Derived.Test.YtkokejemgekfaaaDm8
set_option linter.unusedVariables false
namespace Go.Den.L13
open Go
noncomputable section
/-- The rounds that a loop is given: 2 ^ 64; so laid that nothing unfolds it. -/
noncomputable def KK : Nat := Classical.choose (⟨2 ^ 64, rfl⟩ : ∃ n : Nat, n = 2 ^ 64)
def w64 (x : Int) : Int := IntKind.wrap .i64 x
def chk (b : Bool) (x : Rs) : Rs := if b then x else none
def bitAnd (k : IntKind) (a b : Int) : Int := k.wrap (BitVec.ofInt k.bits a &&& BitVec.ofInt k.bits b).toNat
def bitOr (k : IntKind) (a b : Int) : Int := k.wrap (BitVec.ofInt k.bits a ||| BitVec.ofInt k.bits b).toNat
def bitXor (k : IntKind) (a b : Int) : Int := k.wrap (BitVec.ofInt k.bits a ^^^ BitVec.ofInt k.bits b).toNat
def stR (xs : List (List D)) (i off : Nat) (ys : List D) : List (List D) := xs.modify i fun r => r.take off ++ ys ++ r.drop (off + ys.length)
def z3 : List D := [.i .i64 0]
def z119 : List D := [.i .i64 0, .s ⟨#[]⟩]
/-- spec.l1In -/
def t60 (n1 : Int) (n2 : Int) (n3 : Int) : Rs :=
  some ([.one (.b ((decide (n1 ≥ n2)) && (decide (n1 ≤ n3))))], [])
def zr60 : List DV := [.one (.b false)]
def zo60 : List (List D) := []
def A60 : List TA := [.one (.i .i64), .one (.i .i64), .one (.i .i64)]
abbrev Y60 := Int → Int → Int → Rs
def la89o1 (t60 : Y60) (s7 : ByteArray) (b8 : Bool) (q1 : Int → Bool → List (List D) → Rs) : Nat → Int → SV → List (List D) → Rs
  | 0, _, _, _ => none
  | m + 1, n6, v9, l10 =>
    let y1 := decide (n6 ≥ (128 : Int))
    if y1 then
     let y2 := ([[.i .u8 (IntKind.wrap .u8 (w64 ((128 : Int) + (n6.tmod (128 : Int)))))]] : List (List D))
     chk ((flatR 1 y2) && decide (l10.length + y2.length ≤ lim)) <|
     la89o1 t60 s7 b8 q1 m (w64 (n6.tdiv (128 : Int))) (.d (.b y1)) (l10 ++ y2)
    else
     q1 n6 y1 l10
/-- spec.Var -/
def ta89 (t60 : Y60) (n1 : Int) : Rs :=
  let y1 := t60 n1 (0 : Int) (562949953421311 : Int)
  chk (okR zr60 zo60 y1) <|
  let y2 := !(asB (resC y1 0 0))
  if y2 then
   some ([.one (.s (⟨#[]⟩ : ByteArray))], [])
  else
   la89o1 t60 (⟨#[]⟩ : ByteArray) y2
    (fun (n19 : Int) (b20 : Bool) (l21 : List (List D)) =>
     let y3 := ([[.i .u8 (IntKind.wrap .u8 n19)]] : List (List D))
     chk ((flatR 1 y3) && decide (l21.length + y3.length ≤ lim)) <|
     let y4 := l21 ++ y3
     chk (isBytes y4) <|
     some ([.one (.s ⟨(bytesD y4).toArray⟩)], [])) KK n1 SV.undef ([] : List (List D))
def t89 : Int → Rs := ta89 t60
def zr89 : List DV := [.one (.s ⟨#[]⟩)]
def zo89 : List (List D) := []
def A89 : List TA := [.one (.i .i64)]
abbrev Y89 := Int → Rs
def la84o2 (t89 : Y89) (s53 : ByteArray) (n54 : Int) (n55 : Int) (n56 : Int) (b59 : Bool) (q1 : Int → Int → Bool → SV → Rs) : Nat → Int → Int → SV → SV → Rs
  | 0, _, _, _, _ => none
  | m + 1, n57, n58, v60, v61 =>
    let y1 := decide (n58 ≥ (0 : Int))
    if y1 then
     chk (decide (0 ≤ n58 ∧ n58 < s53.size)) <|
     la84o2 t89 s53 n54 n55 n56 b59 q1 m (w64 ((w64 (n57 * (128 : Int))) + ((w64 ((s53.get! n58.toNat).toNat)).tmod (128 : Int)))) (w64 (n58 - (1 : Int))) (.d (.b y1)) (keepV [] v61)
    else
     q1 n57 n58 y1 (keepV [] v61)
def la84o0 (t89 : Y89) (s35 : ByteArray) (n36 : Int) (n37 : Int) (q1 : Int → Int → Int → Bool → Bool → Bool → Rs) (q2 : Int → SV → SV → Bool → SV → SV → Rs) : Nat → Int → SV → SV → SV → SV → SV → Rs
  | 0, _, _, _, _, _, _ => none
  | m + 1, n38, v39, v40, v41, v42, v43 =>
    let y1 := (decide (n38 ≤ (7 : Int))) && (decide (n38 ≤ (s35.size : Int)))
    if y1 then
     la84o2 t89 s35 n36 n37 n38 y1
      (fun (n75 : Int) (n76 : Int) (b77 : Bool) (v78 : SV) =>
       chk (okR zr89 zo89 (t89 n75)) <|
       chk (decide (0 ≤ (0 : Int) ∧ (0 : Int) ≤ n38 ∧ n38 ≤ s35.size)) <|
       let y2 := (asS (resC (t89 n75) 0 0)).toList == (s35.extract (0 : Int).toNat n38.toNat).toList
       if y2 then
        q1 n75 n38 n76 y1 b77 y2
       else
        la84o0 t89 s35 n36 n37 q1 q2 m (w64 (n38 + (1 : Int))) (.d (.i .i64 n75)) (.d (.i .i64 n76)) (.d (.b y1)) (.d (.b b77)) (.d (.b y2))) KK (0 : Int) (w64 (n38 - (1 : Int))) v42 v43
    else
     q2 n38 (keepV [] v39) (keepV [] v40) y1 (keepV [] v42) (keepV [] v43)
/-- spec.ReadVar -/
def ta84 (t89 : Y89) (s1 : ByteArray) : Rs :=
  la84o0 t89 s1 (0 : Int) (0 : Int)
   (fun (n100 : Int) (n101 : Int) (n102 : Int) (b103 : Bool) (b104 : Bool) (b105 : Bool) =>
    some ([.one (.i .i64 n100), .one (.i .i64 n101)], []))
   (fun (n106 : Int) (v107 : SV) (v108 : SV) (b109 : Bool) (v110 : SV) (v111 : SV) =>
    some ([.one (.i .i64 (0 : Int)), .one (.i .i64 (0 : Int))], [])) KK (1 : Int) SV.undef SV.undef SV.undef SV.undef SV.undef
def t84 : ByteArray → Rs := ta84 t89
def zr84 : List DV := [.one (.i .i64 0), .one (.i .i64 0)]
def zo84 : List (List D) := []
def A84 : List TA := [.one (.s)]
abbrev Y84 := ByteArray → Rs
def la92o0 (t84 : Y84) (s10 : ByteArray) (n12 : Int) (n13 : Int) (q1 : Int → Int → SV → SV → Bool → Bool → SV → List (List D) → Rs) (q2 : Int → Int → Int → Int → Bool → Bool → Bool → List (List D) → Rs) (q3 : Int → Int → SV → SV → Bool → SV → SV → List (List D) → Rs) : Nat → Int → Int → SV → SV → SV → SV → SV → List (List D) → Rs
  | 0, _, _, _, _, _, _, _, _ => none
  | m + 1, n11, n14, v15, v16, v17, v18, v19, l20 =>
    let y1 := decide (n14 < n12)
    if y1 then
     let y2 := (decide (n11 < (0 : Int))) || (decide (n11 > (s10.size : Int)))
     if y2 then
      q1 n11 n14 v15 v16 y1 y2 v19 l20
     else
      chk (decide (0 ≤ n11 ∧ n11 ≤ s10.size)) <|
      let y3 := t84 (s10.extract n11.toNat s10.size)
      chk (okR zr84 zo84 y3) <|
      let y4 := asI (resC y3 1 0)
      let y5 := y4 == (0 : Int)
      if y5 then
       let y6 := asI (resC y3 0 0)
       q2 n11 n14 y6 y4 y1 y2 y5 l20
      else
       let y7 := asI (resC y3 0 0)
       let y8 := ([[.i .i64 y7]] : List (List D))
       chk ((flatR 1 y8) && decide (l20.length + y8.length ≤ lim)) <|
       la92o0 t84 s10 n12 n13 q1 q2 q3 m (w64 (n11 + y4)) (w64 (n14 + (1 : Int))) (.d (.i .i64 y7)) (.d (.i .i64 y4)) (.d (.b y1)) (.d (.b y2)) (.d (.b y5)) (l20 ++ y8)
    else
     q3 n11 n14 (keepV [768] v15) (keepV [768] v16) y1 (keepV [768] v18) (keepV [768] v19) l20
/-- spec.l8Vars -/
def ta92 (t84 : Y84) (s1 : ByteArray) (n2 : Int) (n3 : Int) : Rs :=
  la92o0 t84 s1 n3 (0 : Int)
   (fun (n56 : Int) (n57 : Int) (v58 : SV) (v59 : SV) (b60 : Bool) (b61 : Bool) (v62 : SV) (l63 : List (List D)) =>
    some ([.one (.l l63), .one (.i .i64 (-1 : Int))], []))
   (fun (n64 : Int) (n65 : Int) (n66 : Int) (n67 : Int) (b68 : Bool) (b69 : Bool) (b70 : Bool) (l71 : List (List D)) =>
    some ([.one (.l l71), .one (.i .i64 (-1 : Int))], []))
   (fun (n72 : Int) (n73 : Int) (v74 : SV) (v75 : SV) (b76 : Bool) (v77 : SV) (v78 : SV) (l79 : List (List D)) =>
    some ([.one (.l l79), .one (.i .i64 n72)], [])) KK n2 (0 : Int) SV.undef SV.undef SV.undef SV.undef SV.undef ([] : List (List D))
def t92 : ByteArray → Int → Int → Rs := ta92 t84
def zr92 : List DV := [.one (.l []), .one (.i .i64 0)]
def zo92 : List (List D) := []
def A92 : List TA := [.one (.s), .one (.i .i64), .one (.i .i64)]
abbrev Y92 := ByteArray → Int → Int → Rs
/-- spec.l8Take -/
def ta93 (t92 : Y92) (s1 : ByteArray) (n2 : Int) : Rs :=
  let y1 := t92 s1 n2 (1 : Int)
  chk (okR zr92 zo92 y1) <|
  let y2 := asL (resC y1 0 0)
  let y3 := asI (resC y1 1 0)
  let y4 := decide (y3 < (0 : Int))
  chk ((decide (0 ≤ (0 : Int)) && decide ((0 : Int) < y2.length)) || !(!y4)) <|
  let y5 := y2.getD ((0 : Int).toNat) []
  chk ((decide (1 ≤ y5.length) && isF z3 0 y5) || !(!y4)) <|
  if y4 || (decide ((asI (nthD y5 0)) > (w64 ((s1.size : Int) - y3)))) then
   some ([.one (.s (⟨#[]⟩ : ByteArray)), .one (.i .i64 (-1 : Int))], [])
  else
   chk (decide (0 ≤ (0 : Int)) && decide ((0 : Int) < y2.length)) <|
   let y6 := y2.getD ((0 : Int).toNat) []
   chk (decide (1 ≤ y6.length) && isF z3 0 y6) <|
   let y7 := w64 (y3 + (asI (nthD y6 0)))
   chk (decide (0 ≤ y3 ∧ y3 ≤ y7 ∧ y7 ≤ s1.size)) <|
   chk (decide (0 ≤ (0 : Int)) && decide ((0 : Int) < y2.length)) <|
   let y8 := y2.getD ((0 : Int).toNat) []
   chk (decide (1 ≤ y8.length) && isF z3 0 y8) <|
   some ([.one (.s (s1.extract y3.toNat y7.toNat)), .one (.i .i64 (w64 (y3 + (asI (nthD y8 0)))))], [])
def t93 : ByteArray → Int → Rs := ta93 t92
def zr93 : List DV := [.one (.s ⟨#[]⟩), .one (.i .i64 0)]
def zo93 : List (List D) := []
def A93 : List TA := [.one (.s), .one (.i .i64)]
abbrev Y93 := ByteArray → Int → Rs
/-- spec.l12Server -/
def ta72 (t60 : Y60) (n1 : Int) : Rs :=
  let y1 := t60 n1 (0 : Int) (4 : Int)
  chk (okR zr60 zo60 y1) <|
  some ([.one (.b (asB (resC y1 0 0)))], [])
def t72 : Int → Rs := ta72 t60
def zr72 : List DV := [.one (.b false)]
def zo72 : List (List D) := []
def A72 : List TA := [.one (.i .i64)]
abbrev Y72 := Int → Rs
/-- spec.l3Place -/
def ta73 (t60 : Y60) (n1 : Int) (n2 : Int) : Rs :=
  if n1 == (0 : Int) then
   some ([.one (.b (n2 == (0 : Int)))], [])
  else
   let y1 := t60 n1 (1 : Int) (100000 : Int)
   chk (okR zr60 zo60 y1) <|
   let y2 := t60 n2 (1 : Int) (100000 : Int)
   let y3 := asB (resC y1 0 0)
   chk ((okR zr60 zo60 y2) || !y3) <|
   some ([.one (.b (y3 && (asB (resC y2 0 0))))], [])
def t73 : Int → Int → Rs := ta73 t60
def zr73 : List DV := [.one (.b false)]
def zo73 : List (List D) := []
def A73 : List TA := [.one (.i .i64), .one (.i .i64)]
abbrev Y73 := Int → Int → Rs
def la74o1 (t60 : Y60) (l11 : List (List D)) (n13 : Int) (b14 : Bool) (b16 : Bool) (q1 : Int → Int → Bool → Bool → Rs) (q2 : Int → Int → Bool → SV → Rs) : Nat → Int → Int → SV → SV → Rs
  | 0, _, _, _, _ => none
  | m + 1, n12, n15, v17, v18 =>
    let y1 := decide (n15 < (l11.length : Int))
    if y1 then
     let y2 := l11.getD n15.toNat []
     chk (decide (0 ≤ n15) && decide (n15 < l11.length) && isRow z119 y2) <|
     let y3 := t60 (asI (nthD y2 0)) n12 n13
     chk (okR zr60 zo60 y3) <|
     let y4 := l11.getD n15.toNat []
     let y5 := !(asB (resC y3 0 0))
     chk ((decide (0 ≤ n15) && decide (n15 < l11.length) && isRow z119 y4) || !(!y5)) <|
     let y6 := y5 || (decide (((asS (nthD y4 1)).size : Int) > (1600 : Int)))
     if y6 then
      q1 n12 n15 y1 y6
     else
      let y7 := l11.getD n15.toNat []
      chk (decide (0 ≤ n15) && decide (n15 < l11.length) && isRow z119 y7) <|
      la74o1 t60 l11 n13 b14 b16 q1 q2 m (asI (nthD y7 0)) (w64 (n15 + (1 : Int))) (.d (.b y1)) (.d (.b y6))
    else
     q2 n12 n15 y1 (keepV [] v18)
/-- spec.l12Run -/
def ta74 (t60 : Y60) (l1 : List (List D)) (n2 : Int) (n3 : Int) : Rs :=
  let k1 := fun (n4 : Int) =>
   let y1 := decide (n2 < (1 : Int))
   la74o1 t60 l1 n3 false y1
    (fun (n35 : Int) (n36 : Int) (b37 : Bool) (b38 : Bool) =>
     some ([.one (.b false)], []))
    (fun (n39 : Int) (n40 : Int) (b41 : Bool) (v42 : SV) =>
     some ([.one (.b true)], [])) KK n4 (0 : Int) SV.undef SV.undef
  let y2 := decide (n2 < (1 : Int))
  if y2 then
   k1 (1 : Int)
  else
   k1 n2
def t74 : List (List D) → Int → Int → Rs := ta74 t60
def zr74 : List DV := [.one (.b false)]
def zo74 : List (List D) := []
def A74 : List TA := [.one (.l), .one (.i .i64), .one (.i .i64)]
abbrev Y74 := List (List D) → Int → Int → Rs
def l114o1 (l8 : List (List D)) (l9 : List (List D)) (b10 : Bool) (b12 : Bool) (q1 : Int → Bool → Bool → Rs) (q2 : Int → Bool → SV → Rs) : Nat → Int → SV → SV → Rs
  | 0, _, _, _ => none
  | m + 1, n11, v13, v14 =>
    let y1 := decide (n11 < (l8.length : Int))
    if y1 then
     let y2 := l8.getD n11.toNat []
     chk (decide (0 ≤ n11) && decide (n11 < l8.length) && isRow z119 y2) <|
     let y3 := l9.getD n11.toNat []
     chk (decide (0 ≤ n11) && decide (n11 < l9.length) && isRow z119 y3) <|
     let y4 := !(((asI (nthD y2 0)) == (asI (nthD y3 0))) && (((asS (nthD y2 1)).toList == (asS (nthD y3 1)).toList) && true))
     if y4 then
      q1 n11 y1 y4
     else
      l114o1 l8 l9 b10 b12 q1 q2 m (w64 (n11 + (1 : Int))) (.d (.b y1)) (.d (.b y4))
    else
     q2 n11 y1 (keepV [] v14)
/-- spec.l12SameEntries -/
def t114 (l1 : List (List D)) (l2 : List (List D)) : Rs :=
  let y1 := (l1.length : Int) != (l2.length : Int)
  if y1 then
   some ([.one (.b false)], [])
  else
   l114o1 l1 l2 false y1
    (fun (n28 : Int) (b29 : Bool) (b30 : Bool) =>
     some ([.one (.b false)], []))
    (fun (n31 : Int) (b32 : Bool) (v33 : SV) =>
     some ([.one (.b true)], [])) KK (0 : Int) SV.undef SV.undef
def zr114 : List DV := [.one (.b false)]
def zo114 : List (List D) := []
def A114 : List TA := [.one (.l), .one (.l)]
abbrev Y114 := List (List D) → List (List D) → Rs
/-- spec.l12Same -/
def ta75 (t114 : Y114) (n1 : Int) (n2 : Int) (n3 : Int) (n4 : Int) (n5 : Int) (n6 : Int) (n7 : Int) (b8 : Bool) (l9 : List (List D)) (s10 : ByteArray) (n11 : Int) (n12 : Int) (n13 : Int) (n14 : Int) (n15 : Int) (n16 : Int) (n17 : Int) (b18 : Bool) (l19 : List (List D)) (s20 : ByteArray) : Rs :=
  if ((((((((n1 != n11) || (n2 != n12)) || (n3 != n13)) || (n4 != n14)) || (n5 != n15)) || (n6 != n16)) || (n7 != n17)) || (!(b8 == b18))) || (!(s10.toList == s20.toList)) then
   some ([.one (.b false)], [])
  else
   chk (okR zr114 zo114 (t114 l9 l19)) <|
   some ([.one (.b (asB (resC (t114 l9 l19) 0 0)))], [])
def t75 : Int → Int → Int → Int → Int → Int → Int → Bool → List (List D) → ByteArray → Int → Int → Int → Int → Int → Int → Int → Bool → List (List D) → ByteArray → Rs := ta75 t114
def zr75 : List DV := [.one (.b false)]
def zo75 : List (List D) := []
def A75 : List TA := [.agg [.i .i64, .i .i64, .i .i64, .i .i64, .i .i64, .i .i64, .i .i64, .b, .l, .s], .agg [.i .i64, .i .i64, .i .i64, .i .i64, .i .i64, .i .i64, .i .i64, .b, .l, .s]]
abbrev Y75 := Int → Int → Int → Int → Int → Int → Int → Bool → List (List D) → ByteArray → Int → Int → Int → Int → Int → Int → Int → Bool → List (List D) → ByteArray → Rs
/-- spec.MsgOk -/
def ta37 (t60 : Y60) (t72 : Y72) (t73 : Y73) (t74 : Y74) (t75 : Y75) (n1 : Int) (n2 : Int) (n3 : Int) (n4 : Int) (n5 : Int) (n6 : Int) (n7 : Int) (b8 : Bool) (l9 : List (List D)) (s10 : ByteArray) : Rs :=
  chk (okR zr72 zo72 (t72 n2)) <|
  let y1 := asB (resC (t72 n2) 0 0)
  chk ((okR zr72 zo72 (t72 n3)) || !y1) <|
  let y2 := t60 n4 (1 : Int) (100000 : Int)
  chk (okR zr60 zo60 y2) <|
  let k1 := fun (n11 : Int) =>
   if n1 == (1 : Int) then
    let y3 := (y1 && (asB (resC (t72 n3) 0 0))) && (n2 != n3)
    let y4 := asB (resC y2 0 0)
    let y5 := y3 && y4
    chk ((okR zr73 zo73 (t73 n5 n6)) || !y5) <|
    let y6 := t75 n1 n2 n3 n4 n5 n6 n7 b8 l9 s10 n1 n2 n3 n11 n5 n6 (0 : Int) false ([] : List (List D)) (⟨#[]⟩ : ByteArray)
    let y7 := (y5 && (asB (resC (t73 n5 n6) 0 0))) && (decide (n6 ≤ n4))
    chk ((okR zr75 zo75 y6) || !y7) <|
    some ([.one (.b (y7 && (asB (resC y6 0 0))))], [])
   else
    if n1 == (2 : Int) then
     let y8 := t75 n1 n2 n3 n4 n5 n6 n7 b8 l9 s10 n1 n2 n3 n11 (0 : Int) (0 : Int) (0 : Int) b8 ([] : List (List D)) (⟨#[]⟩ : ByteArray)
     let y9 := (y1 && (asB (resC (t72 n3) 0 0))) && (n2 != n3)
     let y10 := asB (resC y2 0 0)
     let y11 := y9 && y10
     chk ((okR zr75 zo75 y8) || !y11) <|
     some ([.one (.b (y11 && (asB (resC y8 0 0))))], [])
    else
     if n1 == (3 : Int) then
      let y12 := (y1 && (asB (resC (t72 n3) 0 0))) && (n2 != n3)
      let y13 := asB (resC y2 0 0)
      let y14 := y12 && y13
      chk ((okR zr73 zo73 (t73 n5 n6)) || !y14) <|
      let y15 := t60 n7 (0 : Int) (100000 : Int)
      let y16 := (y14 && (asB (resC (t73 n5 n6) 0 0))) && (decide (n6 ≤ n4))
      chk ((okR zr60 zo60 y15) || !y16) <|
      let y17 := t74 l9 n6 n4
      let y18 := (y16 && (asB (resC y15 0 0))) && (decide ((l9.length : Int) ≤ (4 : Int)))
      chk ((okR zr74 zo74 y17) || !y18) <|
      let y19 := t75 n1 n2 n3 n4 n5 n6 n7 b8 l9 s10 n1 n2 n3 n11 n5 n6 n7 false l9 (⟨#[]⟩ : ByteArray)
      let y20 := (y18 && (asB (resC y17 0 0))) && (decide ((w64 (n5 + (l9.length : Int))) ≤ (100000 : Int)))
      chk ((okR zr75 zo75 y19) || !y20) <|
      some ([.one (.b (y20 && (asB (resC y19 0 0))))], [])
     else
      if n1 == (4 : Int) then
       let y21 := t60 n5 (0 : Int) (100000 : Int)
       let y22 := (y1 && (asB (resC (t72 n3) 0 0))) && (n2 != n3)
       let y23 := asB (resC y2 0 0)
       let y24 := y22 && y23
       chk ((okR zr60 zo60 y21) || !y24) <|
       let y25 := t75 n1 n2 n3 n4 n5 n6 n7 b8 l9 s10 n1 n2 n3 n11 n5 (0 : Int) (0 : Int) b8 ([] : List (List D)) (⟨#[]⟩ : ByteArray)
       let y26 := y24 && (asB (resC y21 0 0))
       chk ((okR zr75 zo75 y25) || !y26) <|
       some ([.one (.b (y26 && (asB (resC y25 0 0))))], [])
      else
       let k2 := fun (b12 : Bool) (n13 : Int) (s14 : ByteArray) =>
        let y27 := t75 n1 n2 n3 n4 n5 n6 n7 b8 l9 s10 n1 n2 n3 n11 n5 n13 (0 : Int) false ([] : List (List D)) s14
        chk ((okR zr75 zo75 y27) || !b12) <|
        some ([.one (.b (b12 && (asB (resC y27 0 0))))], [])
       if n1 == (5 : Int) then
        let y28 := t60 n5 (1 : Int) (100000 : Int)
        let y29 := (y1 && (asB (resC (t72 n3) 0 0))) && (n2 != n3)
        let y30 := asB (resC y2 0 0)
        let y31 := y29 && y30
        chk ((okR zr60 zo60 y28) || !y31) <|
        let y32 := t60 n6 (1 : Int) n4
        let y33 := y31 && (asB (resC y28 0 0))
        chk ((okR zr60 zo60 y32) || !y33) <|
        k2 ((y33 && (asB (resC y32 0 0))) && (decide ((s10.size : Int) ≤ (20000 : Int)))) n6 s10
       else
        k2 false (0 : Int) (⟨#[]⟩ : ByteArray)
  let y34 := (y1 && (asB (resC (t72 n3) 0 0))) && (n2 != n3)
  if y34 then
   k1 n4
  else
   k1 (0 : Int)
def t37 : Int → Int → Int → Int → Int → Int → Int → Bool → List (List D) → ByteArray → Rs := ta37 t60 t72 t73 t74 t75
def zr37 : List DV := [.one (.b false)]
def zo37 : List (List D) := []
def A37 : List TA := [.agg [.i .i64, .i .i64, .i .i64, .i .i64, .i .i64, .i .i64, .i .i64, .b, .l, .s]]
abbrev Y37 := Int → Int → Int → Int → Int → Int → Int → Bool → List (List D) → ByteArray → Rs
/-- spec.l12Yes -/
def t90 (b1 : Bool) : Rs :=
  if b1 then
   some ([.one (.i .i64 (1 : Int))], [])
  else
   some ([.one (.i .i64 (0 : Int))], [])
def zr90 : List DV := [.one (.i .i64 0)]
def zo90 : List (List D) := []
def A90 : List TA := [.one (.b)]
abbrev Y90 := Bool → Rs
def la48o1 (t37 : Y37) (t89 : Y89) (t90 : Y90) (n35 : Int) (n36 : Int) (n37 : Int) (n38 : Int) (n39 : Int) (n40 : Int) (n41 : Int) (b42 : Bool) (l43 : List (List D)) (s44 : ByteArray) (s45 : ByteArray) (b48 : Bool) (n50 : Int) (n51 : Int) (n52 : Int) (n53 : Int) (n54 : Int) (n55 : Int) (n56 : Int) (b57 : Bool) (l58 : List (List D)) (s59 : ByteArray) (q1 : ByteArray → Int → Bool → Rs) : Nat → ByteArray → Int → SV → Rs
  | 0, _, _, _ => none
  | m + 1, s46, n47, v49 =>
    let y1 := decide (n47 < (l58.length : Int))
    if y1 then
     let y2 := l58.getD n47.toNat []
     chk (decide (0 ≤ n47) && decide (n47 < l58.length) && isRow z119 y2) <|
     let y3 := t89 (asI (nthD y2 0))
     chk (okR zr89 zo89 y3) <|
     let y4 := asS (resC y3 0 0)
     chk (decide (s46.size + y4.size ≤ lim)) <|
     let y5 := l58.getD n47.toNat []
     chk (decide (0 ≤ n47) && decide (n47 < l58.length) && isRow z119 y5) <|
     let y6 := t89 ((asS (nthD y5 1)).size : Int)
     chk (okR zr89 zo89 y6) <|
     let y7 := s46 ++ y4
     let y8 := asS (resC y6 0 0)
     chk (decide (y7.size + y8.size ≤ lim)) <|
     let y9 := l58.getD n47.toNat []
     chk (decide (0 ≤ n47) && decide (n47 < l58.length) && isRow z119 y9) <|
     let y10 := y7 ++ y8
     let y11 := asS (nthD y9 1)
     chk (decide (y10.size + y11.size ≤ lim)) <|
     la48o1 t37 t89 t90 n35 n36 n37 n38 n39 n40 n41 b42 l43 s44 s45 b48 n50 n51 n52 n53 n54 n55 n56 b57 l58 s59 q1 m (y10 ++ y11) (w64 (n47 + (1 : Int))) (.d (.b y1))
    else
     q1 s46 n47 y1
/-- spec.ShowMsg -/
def ta48 (t37 : Y37) (t89 : Y89) (t90 : Y90) (n1 : Int) (n2 : Int) (n3 : Int) (n4 : Int) (n5 : Int) (n6 : Int) (n7 : Int) (b8 : Bool) (l9 : List (List D)) (s10 : ByteArray) : Rs :=
  let y1 := t37 n1 n2 n3 n4 n5 n6 n7 b8 l9 s10
  chk (okR zr37 zo37 y1) <|
  let y2 := !(asB (resC y1 0 0))
  if y2 then
   some ([.one (.s (⟨#[]⟩ : ByteArray))], [])
  else
   chk (okR zr89 zo89 (t89 n1)) <|
   chk (okR zr89 zo89 (t89 n2)) <|
   let y3 := asS (resC (t89 n1) 0 0)
   let y4 := asS (resC (t89 n2) 0 0)
   chk (decide (y3.size + y4.size ≤ lim)) <|
   chk (okR zr89 zo89 (t89 n3)) <|
   let y5 := y3 ++ y4
   let y6 := asS (resC (t89 n3) 0 0)
   chk (decide (y5.size + y6.size ≤ lim)) <|
   chk (okR zr89 zo89 (t89 n4)) <|
   let y7 := y5 ++ y6
   let y8 := asS (resC (t89 n4) 0 0)
   chk (decide (y7.size + y8.size ≤ lim)) <|
   chk (okR zr89 zo89 (t89 n5)) <|
   let y9 := y7 ++ y8
   let y10 := asS (resC (t89 n5) 0 0)
   chk (decide (y9.size + y10.size ≤ lim)) <|
   chk (okR zr89 zo89 (t89 n6)) <|
   let y11 := y9 ++ y10
   let y12 := asS (resC (t89 n6) 0 0)
   chk (decide (y11.size + y12.size ≤ lim)) <|
   chk (okR zr89 zo89 (t89 n7)) <|
   let y13 := y11 ++ y12
   let y14 := asS (resC (t89 n7) 0 0)
   chk (decide (y13.size + y14.size ≤ lim)) <|
   chk (okR zr90 zo90 (t90 b8)) <|
   let y15 := t89 (asI (resC (t90 b8) 0 0))
   chk (okR zr89 zo89 y15) <|
   let y16 := y13 ++ y14
   let y17 := asS (resC y15 0 0)
   chk (decide (y16.size + y17.size ≤ lim)) <|
   let y18 := t89 (l9.length : Int)
   chk (okR zr89 zo89 y18) <|
   let y19 := y16 ++ y17
   let y20 := asS (resC y18 0 0)
   chk (decide (y19.size + y20.size ≤ lim)) <|
   la48o1 t37 t89 t90 n1 n2 n3 n4 n5 n6 n7 b8 l9 s10 (⟨#[]⟩ : ByteArray) y2 n1 n2 n3 n4 n5 n6 n7 b8 l9 s10
    (fun (s88 : ByteArray) (n89 : Int) (b90 : Bool) =>
     chk (decide (s88.size + s10.size ≤ lim)) <|
     chk (decide ((⟨#[109]⟩ : ByteArray).size + (s88 ++ s10).size ≤ lim)) <|
     some ([.one (.s ((⟨#[109]⟩ : ByteArray) ++ (s88 ++ s10)))], [])) KK (y19 ++ y20) (0 : Int) SV.undef
def t48 : Int → Int → Int → Int → Int → Int → Int → Bool → List (List D) → ByteArray → Rs := ta48 t37 t89 t90
def zr48 : List DV := [.one (.s ⟨#[]⟩)]
def zo48 : List (List D) := []
def A48 : List TA := [.agg [.i .i64, .i .i64, .i .i64, .i .i64, .i .i64, .i .i64, .i .i64, .b, .l, .s]]
abbrev Y48 := Int → Int → Int → Int → Int → Int → Int → Bool → List (List D) → ByteArray → Rs
def la54o1 (t48 : Y48) (t92 : Y92) (t93 : Y93) (s27 : ByteArray) (b28 : Bool) (b34 : Bool) (n38 : Int) (n39 : Int) (n40 : Int) (n41 : Int) (n42 : Int) (n43 : Int) (n44 : Int) (b45 : Bool) (s46 : ByteArray) (n47 : Int) (n48 : Int) (n49 : Int) (n50 : Int) (n51 : Int) (n52 : Int) (n53 : Int) (b54 : Bool) (s55 : ByteArray) (l56 : List (List D)) (q1 : Int → Int → Int → SV → SV → Bool → Bool → SV → ByteArray → List (List D) → List (List D) → Rs) (q2 : Int → Int → Int → ByteArray → Int → Bool → Bool → Bool → ByteArray → List (List D) → List (List D) → Rs) (q3 : Int → Int → SV → SV → SV → Bool → SV → SV → List (List D) → Rs) : Nat → Int → Int → SV → SV → SV → SV → SV → SV → List (List D) → Rs
  | 0, _, _, _, _, _, _, _, _, _ => none
  | m + 1, n29, n30, v31, v32, v33, v35, v36, v37, l57 =>
    let y1 := decide (n30 > (0 : Int))
    if y1 then
     let y2 := t92 s27 n29 (1 : Int)
     chk (okR zr92 zo92 y2) <|
     let y3 := asI (resC y2 1 0)
     let y4 := decide (y3 < (0 : Int))
     if y4 then
      let y5 := asL (resC y2 0 0)
      q1 n29 n30 y3 v32 v33 y1 y4 v37 (⟨#[]⟩ : ByteArray) y5 l57
     else
      let y6 := t93 s27 y3
      chk (okR zr93 zo93 y6) <|
      let y7 := asI (resC y6 1 0)
      let y8 := decide (y7 < (0 : Int))
      if y8 then
       let y9 := asS (resC y6 0 0)
       let y10 := asL (resC y2 0 0)
       q2 n29 n30 y3 y9 y7 y1 y4 y8 (⟨#[]⟩ : ByteArray) y10 l57
      else
       let y11 := asL (resC y2 0 0)
       chk (decide (0 ≤ (0 : Int)) && decide ((0 : Int) < y11.length)) <|
       let y12 := y11.getD ((0 : Int).toNat) []
       chk (decide (1 ≤ y12.length) && isF z3 0 y12) <|
       let y13 := asS (resC y6 0 0)
       let y14 := ([[.i .i64 (asI (nthD y12 0)), .s y13]] : List (List D))
       chk ((flatR 2 y14) && decide (l57.length + y14.length ≤ lim)) <|
       la54o1 t48 t92 t93 s27 b28 b34 n38 n39 n40 n41 n42 n43 n44 b45 s46 n47 n48 n49 n50 n51 n52 n53 b54 s55 l56 q1 q2 q3 m y7 (w64 (n30 - (1 : Int))) (.d (.i .i64 y3)) (.d (.s y13)) (.d (.i .i64 y7)) (.d (.b y1)) (.d (.b y4)) (.d (.b y8)) (l57 ++ y14)
    else
     q3 n29 n30 (keepV [128, 384, 896, 24585] v31) (keepV [128, 384, 896, 24585] v32) (keepV [128, 384, 896, 24585] v33) y1 (keepV [128, 384, 896, 24585] v36) (keepV [128, 384, 896, 24585] v37) l57
/-- spec.ReadMsg -/
def ta54 (t48 : Y48) (t92 : Y92) (t93 : Y93) (s1 : ByteArray) : Rs :=
  let y1 := t92 s1 (1 : Int) (9 : Int)
  chk (okR zr92 zo92 y1) <|
  let y2 := asL (resC y1 0 0)
  let y3 := asI (resC y1 1 0)
  let y4 := decide (y3 < (0 : Int))
  chk ((decide (0 ≤ (8 : Int)) && decide ((8 : Int) < y2.length)) || !(!y4)) <|
  let y5 := y2.getD ((8 : Int).toNat) []
  chk ((decide (1 ≤ y5.length) && isF z3 0 y5) || !(!y4)) <|
  let y6 := y4 || (decide ((asI (nthD y5 0)) > (4 : Int)))
  if y6 then
   some ([.agg [.i .i64 (0 : Int), .i .i64 (0 : Int), .i .i64 (0 : Int), .i .i64 (0 : Int), .i .i64 (0 : Int), .i .i64 (0 : Int), .i .i64 (0 : Int), .b false, .l ([] : List (List D)), .s (⟨#[]⟩ : ByteArray)], .one (.b false)], [])
  else
   chk (decide (0 ≤ (0 : Int)) && decide ((0 : Int) < y2.length)) <|
   let y7 := y2.getD ((0 : Int).toNat) []
   chk (decide (1 ≤ y7.length) && isF z3 0 y7) <|
   chk (decide (0 ≤ (1 : Int)) && decide ((1 : Int) < y2.length)) <|
   let y8 := y2.getD ((1 : Int).toNat) []
   chk (decide (1 ≤ y8.length) && isF z3 0 y8) <|
   chk (decide (0 ≤ (2 : Int)) && decide ((2 : Int) < y2.length)) <|
   let y9 := y2.getD ((2 : Int).toNat) []
   chk (decide (1 ≤ y9.length) && isF z3 0 y9) <|
   chk (decide (0 ≤ (3 : Int)) && decide ((3 : Int) < y2.length)) <|
   let y10 := y2.getD ((3 : Int).toNat) []
   chk (decide (1 ≤ y10.length) && isF z3 0 y10) <|
   chk (decide (0 ≤ (4 : Int)) && decide ((4 : Int) < y2.length)) <|
   let y11 := y2.getD ((4 : Int).toNat) []
   chk (decide (1 ≤ y11.length) && isF z3 0 y11) <|
   chk (decide (0 ≤ (5 : Int)) && decide ((5 : Int) < y2.length)) <|
   let y12 := y2.getD ((5 : Int).toNat) []
   chk (decide (1 ≤ y12.length) && isF z3 0 y12) <|
   chk (decide (0 ≤ (6 : Int)) && decide ((6 : Int) < y2.length)) <|
   let y13 := y2.getD ((6 : Int).toNat) []
   chk (decide (1 ≤ y13.length) && isF z3 0 y13) <|
   chk (decide (0 ≤ (7 : Int)) && decide ((7 : Int) < y2.length)) <|
   let y14 := y2.getD ((7 : Int).toNat) []
   chk (decide (1 ≤ y14.length) && isF z3 0 y14) <|
   chk (decide (0 ≤ (8 : Int)) && decide ((8 : Int) < y2.length)) <|
   let y15 := y2.getD ((8 : Int).toNat) []
   chk (decide (1 ≤ y15.length) && isF z3 0 y15) <|
   let y16 := asI (nthD y7 0)
   let y17 := asI (nthD y8 0)
   let y18 := asI (nthD y9 0)
   let y19 := asI (nthD y10 0)
   let y20 := asI (nthD y11 0)
   let y21 := asI (nthD y12 0)
   let y22 := asI (nthD y13 0)
   let y23 := (asI (nthD y14 0)) == (1 : Int)
   la54o1 t48 t92 t93 s1 false y6 (0 : Int) (0 : Int) (0 : Int) (0 : Int) (0 : Int) (0 : Int) (0 : Int) false (⟨#[]⟩ : ByteArray) y16 y17 y18 y19 y20 y21 y22 y23 (⟨#[]⟩ : ByteArray) y2
    (fun (n120 : Int) (n121 : Int) (n122 : Int) (v123 : SV) (v124 : SV) (b125 : Bool) (b126 : Bool) (v127 : SV) (s128 : ByteArray) (l129 : List (List D)) (l130 : List (List D)) =>
     some ([.agg [.i .i64 (0 : Int), .i .i64 (0 : Int), .i .i64 (0 : Int), .i .i64 (0 : Int), .i .i64 (0 : Int), .i .i64 (0 : Int), .i .i64 (0 : Int), .b false, .l ([] : List (List D)), .s s128], .one (.b false)], []))
    (fun (n131 : Int) (n132 : Int) (n133 : Int) (s134 : ByteArray) (n135 : Int) (b136 : Bool) (b137 : Bool) (b138 : Bool) (s139 : ByteArray) (l140 : List (List D)) (l141 : List (List D)) =>
     some ([.agg [.i .i64 (0 : Int), .i .i64 (0 : Int), .i .i64 (0 : Int), .i .i64 (0 : Int), .i .i64 (0 : Int), .i .i64 (0 : Int), .i .i64 (0 : Int), .b false, .l ([] : List (List D)), .s s139], .one (.b false)], []))
    (fun (n142 : Int) (n143 : Int) (v144 : SV) (v145 : SV) (v146 : SV) (b147 : Bool) (v148 : SV) (v149 : SV) (l150 : List (List D)) =>
     chk (decide (0 ≤ n142 ∧ n142 ≤ s1.size)) <|
     let y24 := s1.extract n142.toNat s1.size
     let y25 := t48 y16 y17 y18 y19 y20 y21 y22 y23 l150 y24
     chk (okR zr48 zo48 y25) <|
     if !((asS (resC y25 0 0)).toList == s1.toList) then
      some ([.agg [.i .i64 (0 : Int), .i .i64 (0 : Int), .i .i64 (0 : Int), .i .i64 (0 : Int), .i .i64 (0 : Int), .i .i64 (0 : Int), .i .i64 (0 : Int), .b false, .l ([] : List (List D)), .s (⟨#[]⟩ : ByteArray)], .one (.b false)], [])
     else
      some ([.agg [.i .i64 y16, .i .i64 y17, .i .i64 y18, .i .i64 y19, .i .i64 y20, .i .i64 y21, .i .i64 y22, .b y23, .l l150, .s y24], .one (.b true)], [])) KK y3 (asI (nthD y15 0)) SV.undef SV.undef SV.undef SV.undef SV.undef SV.undef ([] : List (List D))
def t54 : ByteArray → Rs := ta54 t48 t92 t93
def zr54 : List DV := [.agg [.i .i64 0, .i .i64 0, .i .i64 0, .i .i64 0, .i .i64 0, .i .i64 0, .i .i64 0, .b false, .l [], .s ⟨#[]⟩], .one (.b false)]
def zo54 : List (List D) := []
def A54 : List TA := [.one (.s)]
abbrev Y54 := ByteArray → Rs
def l86o0 (s7 : ByteArray) (n8 : Int) (n9 : Int) (q1 : Int → Int → Int → Int → Int → Bool → Bool → Bool → Rs) (q2 : Int → Int → SV → Bool → SV → Rs) : Nat → Int → Int → SV → SV → SV → Rs
  | 0, _, _, _, _, _ => none
  | m + 1, n10, n11, v12, v13, v14 =>
    let y1 := (decide (n11 < (s7.size : Int))) && (decide (n11 < (7 : Int)))
    if y1 then
     chk (decide (0 ≤ n11 ∧ n11 < s7.size)) <|
     let y2 := w64 ((7 : Int) * n11)
     chk (decide (0 ≤ y2)) <|
     let y3 := w64 ((s7.get! n11.toNat).toNat)
     let y4 := decide (y3 > (127 : Int))
     if y4 then
      let y5 := bitOr .i64 n10 (w64 ((bitAnd .i64 y3 (127 : Int)) * 2 ^ (min y2.toNat (IntKind.bits .i64))))
      l86o0 s7 n8 n9 q1 q2 m y5 (w64 (n11 + (1 : Int))) (.d (.i .i64 y3)) (.d (.b y1)) (.d (.b y4))
     else
      let y6 := (y3 == (0 : Int)) && (decide (n11 > (0 : Int)))
      if y6 then
       let y7 := bitOr .i64 n10 (w64 ((bitAnd .i64 y3 (127 : Int)) * 2 ^ (min y2.toNat (IntKind.bits .i64))))
       q1 (0 : Int) (0 : Int) y7 n11 y3 y1 y4 y6
      else
       let y8 := bitOr .i64 n10 (w64 ((bitAnd .i64 y3 (127 : Int)) * 2 ^ (min y2.toNat (IntKind.bits .i64))))
       q1 y8 (w64 (n11 + (1 : Int))) y8 n11 y3 y1 y4 y6
    else
     q2 n10 n11 (keepV [] v12) y1 (keepV [] v14)
/-- impl.ReadVar -/
def t86 (s1 : ByteArray) : Rs :=
  l86o0 s1 (0 : Int) (0 : Int)
   (fun (n36 : Int) (n37 : Int) (n38 : Int) (n39 : Int) (n40 : Int) (b41 : Bool) (b42 : Bool) (b43 : Bool) =>
    some ([.one (.i .i64 n36), .one (.i .i64 n37)], []))
   (fun (n44 : Int) (n45 : Int) (v46 : SV) (b47 : Bool) (v48 : SV) =>
    some ([.one (.i .i64 (0 : Int)), .one (.i .i64 (0 : Int))], [])) KK (0 : Int) (0 : Int) SV.undef SV.undef SV.undef
def zr86 : List DV := [.one (.i .i64 0), .one (.i .i64 0)]
def zo86 : List (List D) := []
def A86 : List TA := [.one (.s)]
abbrev Y86 := ByteArray → Rs
/-- (*impl.reader).num -/
def ta95 (t86 : Y86) (s1 : ByteArray) (b2 : Bool) : Rs :=
  chk (okR zr86 zo86 (t86 s1)) <|
  let y1 := asI (resC (t86 s1) 1 0)
  if b2 || (y1 == (0 : Int)) then
   some ([.one (.i .i64 (0 : Int))], [[.s s1, .b true]])
  else
   chk (decide (0 ≤ y1 ∧ y1 ≤ s1.size)) <|
   some ([.one (.i .i64 (asI (resC (t86 s1) 0 0)))], [[.s (s1.extract y1.toNat s1.size), .b b2]])
def t95 : ByteArray → Bool → Rs := ta95 t86
def zr95 : List DV := [.one (.i .i64 0)]
def zo95 : List (List D) := [[.s ⟨#[]⟩, .b false]]
def A95 : List TA := [.ptr [.s, .b]]
abbrev Y95 := ByteArray → Bool → Rs
/-- (*impl.reader).many -/
def ta99 (t95 : Y95) (s1 : ByteArray) (b2 : Bool) (n3 : Int) : Rs :=
  chk (okR zr95 zo95 (t95 s1 b2)) <|
  let y1 := asI (resC (t95 s1 b2) 0 0)
  if decide (y1 > n3) then
   let y2 := asS (outC (t95 s1 b2) 0 0)
   some ([.one (.i .i64 (0 : Int))], [[.s y2, .b true]])
  else
   let y3 := asS (outC (t95 s1 b2) 0 0)
   some ([.one (.i .i64 y1)], [[.s y3, .b (asB (outC (t95 s1 b2) 0 1))]])
def t99 : ByteArray → Bool → Int → Rs := ta99 t95
def zr99 : List DV := [.one (.i .i64 0)]
def zo99 : List (List D) := [[.s ⟨#[]⟩, .b false]]
def A99 : List TA := [.ptr [.s, .b], .one (.i .i64)]
abbrev Y99 := ByteArray → Bool → Int → Rs
/-- (*impl.reader).text -/
def t121 (s1 : ByteArray) (b2 : Bool) (n3 : Int) : Rs :=
  if b2 || (decide (n3 > (s1.size : Int))) then
   some ([.one (.s (⟨#[]⟩ : ByteArray))], [[.s s1, .b true]])
  else
   chk (decide (0 ≤ (0 : Int) ∧ (0 : Int) ≤ n3 ∧ n3 ≤ s1.size)) <|
   chk (decide (0 ≤ n3 ∧ n3 ≤ s1.size)) <|
   some ([.one (.s (s1.extract (0 : Int).toNat n3.toNat))], [[.s (s1.extract n3.toNat s1.size), .b b2]])
def zr121 : List DV := [.one (.s ⟨#[]⟩)]
def zo121 : List (List D) := [[.s ⟨#[]⟩, .b false]]
def A121 : List TA := [.ptr [.s, .b], .one (.i .i64)]
abbrev Y121 := ByteArray → Bool → Int → Rs
/-- (*impl.reader).piece -/
def ta97 (t95 : Y95) (t121 : Y121) (s1 : ByteArray) (b2 : Bool) : Rs :=
  chk (okR zr95 zo95 (t95 s1 b2)) <|
  let y1 := t121 (asS (outC (t95 s1 b2) 0 0)) (asB (outC (t95 s1 b2) 0 1)) (asI (resC (t95 s1 b2) 0 0))
  chk (okR zr121 zo121 y1) <|
  some ([.one (.s (asS (resC y1 0 0)))], [[.s (asS (outC y1 0 0)), .b (asB (outC y1 0 1))]])
def t97 : ByteArray → Bool → Rs := ta97 t95 t121
def zr97 : List DV := [.one (.s ⟨#[]⟩)]
def zo97 : List (List D) := [[.s ⟨#[]⟩, .b false]]
def A97 : List TA := [.ptr [.s, .b]]
abbrev Y97 := ByteArray → Bool → Rs
/-- impl.within -/
def t62 (n1 : Int) (n2 : Int) (n3 : Int) : Rs :=
  some ([.one (.b ((decide (n1 ≥ n2)) && (decide (n1 ≤ n3))))], [])
def zr62 : List DV := [.one (.b false)]
def zo62 : List (List D) := []
def A62 : List TA := [.one (.i .i64), .one (.i .i64), .one (.i .i64)]
abbrev Y62 := Int → Int → Int → Rs
/-- impl.isPlace -/
def ta77 (t62 : Y62) (n1 : Int) (n2 : Int) : Rs :=
  let y1 := t62 n1 (1 : Int) (100000 : Int)
  let y2 := (n1 == (0 : Int)) && (n2 == (0 : Int))
  chk ((okR zr62 zo62 y1) || !(!y2)) <|
  let y3 := t62 n2 (1 : Int) (100000 : Int)
  let y4 := asB (resC y1 0 0)
  chk ((okR zr62 zo62 y3) || !((!y2) && y4)) <|
  some ([.one (.b (y2 || (y4 && (asB (resC y3 0 0)))))], [])
def t77 : Int → Int → Rs := ta77 t62
def zr77 : List DV := [.one (.b false)]
def zo77 : List (List D) := []
def A77 : List TA := [.one (.i .i64), .one (.i .i64)]
abbrev Y77 := Int → Int → Rs
def la78o0 (t62 : Y62) (n26 : Int) (n27 : Int) (n28 : Int) (n29 : Int) (n30 : Int) (n31 : Int) (n32 : Int) (b33 : Bool) (l34 : List (List D)) (s35 : ByteArray) (b36 : Bool) (l38 : List (List D)) (n39 : Int) (q1 : Int → Int → Bool → Bool → Int → ByteArray → Rs) (q2 : Int → Int → Bool → SV → Rs) : Nat → Int → Int → SV → SV → Rs
  | 0, _, _, _, _ => none
  | m + 1, n37, n40, v41, v42 =>
    let y1 := decide (n40 < n39)
    if y1 then
     let y2 := l38.getD n40.toNat []
     chk (decide (0 ≤ n40) && decide (n40 < l38.length) && isRow z119 y2) <|
     let y3 := asI (nthD y2 0)
     let y4 := t62 y3 n37 n29
     let y5 := asS (nthD y2 1)
     let y6 := decide ((y5.size : Int) > (1600 : Int))
     chk ((okR zr62 zo62 y4) || !(!y6)) <|
     let y7 := y6 || (!(asB (resC y4 0 0)))
     if y7 then
      q1 n37 n40 y1 y7 y3 y5
     else
      la78o0 t62 n26 n27 n28 n29 n30 n31 n32 b33 l34 s35 b36 l38 n39 q1 q2 m y3 (w64 (n40 + (1 : Int))) (.d (.b y1)) (.d (.b y7))
    else
     q2 n37 n40 y1 (keepV [] v42)
/-- (*impl.Msg).batchOk -/
def ta78 (t62 : Y62) (n1 : Int) (n2 : Int) (n3 : Int) (n4 : Int) (n5 : Int) (n6 : Int) (n7 : Int) (b8 : Bool) (l9 : List (List D)) (s10 : ByteArray) : Rs :=
  la78o0 t62 n1 n2 n3 n4 n5 n6 n7 b8 l9 s10 false l9 (l9.length : Int)
   (fun (n70 : Int) (n71 : Int) (b72 : Bool) (b73 : Bool) (n74 : Int) (s75 : ByteArray) =>
    some ([.one (.b false)], []))
   (fun (n76 : Int) (n77 : Int) (b78 : Bool) (v79 : SV) =>
    some ([.one (.b ((decide ((l9.length : Int) ≤ (4 : Int))) && (decide ((w64 (n5 + (l9.length : Int))) ≤ (100000 : Int)))))], [])) KK (if n6 > (1 : Int) then n6 else (1 : Int)) (0 : Int) SV.undef SV.undef
def t78 : Int → Int → Int → Int → Int → Int → Int → Bool → List (List D) → ByteArray → Rs := ta78 t62
def zr78 : List DV := [.one (.b false)]
def zo78 : List (List D) := []
def A78 : List TA := [.ptr [.i .i64, .i .i64, .i .i64, .i .i64, .i .i64, .i .i64, .i .i64, .b, .l, .s]]
abbrev Y78 := Int → Int → Int → Int → Int → Int → Int → Bool → List (List D) → ByteArray → Rs
def l116o1 (l9 : List (List D)) (l10 : List (List D)) (b11 : Bool) (b13 : Bool) (n14 : Int) (q1 : Int → Bool → Bool → Rs) (q2 : SV → Int → Bool → SV → Rs) : Nat → SV → Int → SV → SV → Rs
  | 0, _, _, _, _ => none
  | m + 1, v12, n15, v16, v17 =>
    let y1 := decide (n15 < n14)
    if y1 then
     let y2 := l9.getD n15.toNat []
     chk (decide (0 ≤ n15) && decide (n15 < l9.length) && isRow z119 y2) <|
     let y3 := l10.getD n15.toNat []
     chk (decide (0 ≤ n15) && decide (n15 < l10.length) && isRow z119 y3) <|
     let y4 := !(((asI (nthD y2 0)) == (asI (nthD y3 0))) && (((asS (nthD y2 1)).toList == (asS (nthD y3 1)).toList) && true))
     if y4 then
      q1 n15 y1 y4
     else
      l116o1 l9 l10 b11 b13 n14 q1 q2 m (.d (.i .i64 n15)) (w64 (n15 + (1 : Int))) (.d (.b y1)) (.d (.b y4))
    else
     q2 (keepV [] v12) n15 y1 (keepV [] v17)
/-- slices.Equal[[]impl.Entry,impl.Entry] -/
def t116 (l1 : List (List D)) (l2 : List (List D)) : Rs :=
  let y1 := (l1.length : Int) != (l2.length : Int)
  if y1 then
   some ([.one (.b false)], [])
  else
   l116o1 l1 l2 false y1 (l1.length : Int)
    (fun (n34 : Int) (b35 : Bool) (b36 : Bool) =>
     some ([.one (.b false)], []))
    (fun (v37 : SV) (n38 : Int) (b39 : Bool) (v40 : SV) =>
     some ([.one (.b true)], [])) KK SV.undef (0 : Int) SV.undef SV.undef
def zr116 : List DV := [.one (.b false)]
def zo116 : List (List D) := []
def A116 : List TA := [.one (.l), .one (.l)]
abbrev Y116 := List (List D) → List (List D) → Rs
/-- impl.sameMsg -/
def ta79 (t116 : Y116) (n1 : Int) (n2 : Int) (n3 : Int) (n4 : Int) (n5 : Int) (n6 : Int) (n7 : Int) (b8 : Bool) (l9 : List (List D)) (s10 : ByteArray) (n11 : Int) (n12 : Int) (n13 : Int) (n14 : Int) (n15 : Int) (n16 : Int) (n17 : Int) (b18 : Bool) (l19 : List (List D)) (s20 : ByteArray) : Rs :=
  let y1 := (((((((n1 == n11) && (n2 == n12)) && (n3 == n13)) && (n4 == n14)) && (n5 == n15)) && (n6 == n16)) && (n7 == n17)) && (b8 == b18)
  chk ((okR zr116 zo116 (t116 l9 l19)) || !y1) <|
  some ([.one (.b ((y1 && (asB (resC (t116 l9 l19) 0 0))) && (s10.toList == s20.toList)))], [])
def t79 : Int → Int → Int → Int → Int → Int → Int → Bool → List (List D) → ByteArray → Int → Int → Int → Int → Int → Int → Int → Bool → List (List D) → ByteArray → Rs := ta79 t116
def zr79 : List DV := [.one (.b false)]
def zo79 : List (List D) := []
def A79 : List TA := [.agg [.i .i64, .i .i64, .i .i64, .i .i64, .i .i64, .i .i64, .i .i64, .b, .l, .s], .agg [.i .i64, .i .i64, .i .i64, .i .i64, .i .i64, .i .i64, .i .i64, .b, .l, .s]]
abbrev Y79 := Int → Int → Int → Int → Int → Int → Int → Bool → List (List D) → ByteArray → Int → Int → Int → Int → Int → Int → Int → Bool → List (List D) → ByteArray → Rs
/-- impl.MsgOk -/
def ta39 (t62 : Y62) (t77 : Y77) (t78 : Y78) (t79 : Y79) (n1 : Int) (n2 : Int) (n3 : Int) (n4 : Int) (n5 : Int) (n6 : Int) (n7 : Int) (b8 : Bool) (l9 : List (List D)) (s10 : ByteArray) : Rs :=
  let y1 := t62 n2 (0 : Int) (4 : Int)
  chk (okR zr62 zo62 y1) <|
  let y2 := t62 n3 (0 : Int) (4 : Int)
  let y3 := asB (resC y1 0 0)
  chk ((okR zr62 zo62 y2) || !y3) <|
  let y4 := t62 n4 (1 : Int) (100000 : Int)
  let y5 := (y3 && (asB (resC y2 0 0))) && (n2 != n3)
  chk ((okR zr62 zo62 y4) || !y5) <|
  if n1 == (1 : Int) then
   let y6 := y5 && (asB (resC y4 0 0))
   chk ((okR zr77 zo77 (t77 n5 n6)) || !y6) <|
   let y7 := t79 n1 n2 n3 n4 n5 n6 n7 b8 l9 s10 n1 n2 n3 n4 n5 n6 (0 : Int) false ([] : List (List D)) (⟨#[]⟩ : ByteArray)
   let y8 := (y6 && (asB (resC (t77 n5 n6) 0 0))) && (decide (n6 ≤ n4))
   chk ((okR zr79 zo79 y7) || !y8) <|
   some ([.one (.b (y8 && (asB (resC y7 0 0))))], [])
  else
   if n1 == (2 : Int) then
    let y9 := t79 n1 n2 n3 n4 n5 n6 n7 b8 l9 s10 n1 n2 n3 n4 (0 : Int) (0 : Int) (0 : Int) b8 ([] : List (List D)) (⟨#[]⟩ : ByteArray)
    let y10 := y5 && (asB (resC y4 0 0))
    chk ((okR zr79 zo79 y9) || !y10) <|
    some ([.one (.b (y10 && (asB (resC y9 0 0))))], [])
   else
    if n1 == (3 : Int) then
     let y11 := y5 && (asB (resC y4 0 0))
     chk ((okR zr77 zo77 (t77 n5 n6)) || !y11) <|
     let y12 := t62 n7 (0 : Int) (100000 : Int)
     let y13 := (y11 && (asB (resC (t77 n5 n6) 0 0))) && (decide (n6 ≤ n4))
     chk ((okR zr62 zo62 y12) || !y13) <|
     let y14 := t78 n1 n2 n3 n4 n5 n6 n7 b8 l9 s10
     let y15 := y13 && (asB (resC y12 0 0))
     chk ((okR zr78 zo78 y14) || !y15) <|
     let y16 := t79 n1 n2 n3 n4 n5 n6 n7 b8 l9 s10 n1 n2 n3 n4 n5 n6 n7 false l9 (⟨#[]⟩ : ByteArray)
     let y17 := y15 && (asB (resC y14 0 0))
     chk ((okR zr79 zo79 y16) || !y17) <|
     some ([.one (.b (y17 && (asB (resC y16 0 0))))], [])
    else
     if n1 == (4 : Int) then
      let y18 := t62 n5 (0 : Int) (100000 : Int)
      let y19 := y5 && (asB (resC y4 0 0))
      chk ((okR zr62 zo62 y18) || !y19) <|
      let y20 := t79 n1 n2 n3 n4 n5 n6 n7 b8 l9 s10 n1 n2 n3 n4 n5 (0 : Int) (0 : Int) b8 ([] : List (List D)) (⟨#[]⟩ : ByteArray)
      let y21 := y19 && (asB (resC y18 0 0))
      chk ((okR zr79 zo79 y20) || !y21) <|
      some ([.one (.b (y21 && (asB (resC y20 0 0))))], [])
     else
      if n1 == (5 : Int) then
       let y22 := t62 n5 (1 : Int) (100000 : Int)
       let y23 := y5 && (asB (resC y4 0 0))
       chk ((okR zr62 zo62 y22) || !y23) <|
       let y24 := t62 n6 (1 : Int) n4
       let y25 := y23 && (asB (resC y22 0 0))
       chk ((okR zr62 zo62 y24) || !y25) <|
       let y26 := t79 n1 n2 n3 n4 n5 n6 n7 b8 l9 s10 n1 n2 n3 n4 n5 n6 (0 : Int) false ([] : List (List D)) s10
       let y27 := (y25 && (asB (resC y24 0 0))) && (decide ((s10.size : Int) ≤ (20000 : Int)))
       chk ((okR zr79 zo79 y26) || !y27) <|
       some ([.one (.b (y27 && (asB (resC y26 0 0))))], [])
      else
       some ([.one (.b false)], [])
def t39 : Int → Int → Int → Int → Int → Int → Int → Bool → List (List D) → ByteArray → Rs := ta39 t62 t77 t78 t79
def zr39 : List DV := [.one (.b false)]
def zo39 : List (List D) := []
def A39 : List TA := [.agg [.i .i64, .i .i64, .i .i64, .i .i64, .i .i64, .i .i64, .i .i64, .b, .l, .s]]
abbrev Y39 := Int → Int → Int → Int → Int → Int → Int → Bool → List (List D) → ByteArray → Rs
def la55o1 (t39 : Y39) (t95 : Y95) (t97 : Y97) (t99 : Y99) (s29 : ByteArray) (b30 : Bool) (n31 : Int) (b32 : Bool) (n33 : Int) (n36 : Int) (n37 : Int) (n38 : Int) (n39 : Int) (n40 : Int) (n41 : Int) (n42 : Int) (b43 : Bool) (s44 : ByteArray) (n45 : Int) (n46 : Int) (n47 : Int) (n48 : Int) (n49 : Int) (n50 : Int) (n51 : Int) (b52 : Bool) (s53 : ByteArray) (q1 : Int → Bool → ByteArray → Bool → List (List D) → Rs) : Nat → Int → SV → ByteArray → Bool → List (List D) → Rs
  | 0, _, _, _, _, _ => none
  | m + 1, n34, v35, s54, b55, l56 =>
    let y1 := decide (n34 < n33)
    if y1 then
     chk (okR zr95 zo95 (t95 s54 b55)) <|
     let y2 := t97 (asS (outC (t95 s54 b55) 0 0)) (asB (outC (t95 s54 b55) 0 1))
     chk (okR zr97 zo97 y2) <|
     let y3 := ([[.i .i64 (asI (resC (t95 s54 b55) 0 0)), .s (asS (resC y2 0 0))]] : List (List D))
     chk ((flatR 2 y3) && decide (l56.length + y3.length ≤ lim)) <|
     la55o1 t39 t95 t97 t99 s29 b30 n31 b32 n33 n36 n37 n38 n39 n40 n41 n42 b43 s44 n45 n46 n47 n48 n49 n50 n51 b52 s53 q1 m (w64 (n34 + (1 : Int))) (.d (.b y1)) (asS (outC y2 0 0)) (asB (outC y2 0 1)) (l56 ++ y3)
    else
     q1 n34 y1 s54 b55 l56
/-- impl.ReadMsg -/
def ta55 (t39 : Y39) (t95 : Y95) (t97 : Y97) (t99 : Y99) (s1 : ByteArray) : Rs :=
  let y1 := s1.toList == (⟨#[]⟩ : ByteArray).toList
  chk ((decide (0 ≤ (0 : Int) ∧ (0 : Int) < s1.size)) || !(!y1)) <|
  let y2 := y1 || (((s1.get! (0 : Int).toNat).toNat) != (109 : Int))
  if y2 then
   some ([.agg [.i .i64 (0 : Int), .i .i64 (0 : Int), .i .i64 (0 : Int), .i .i64 (0 : Int), .i .i64 (0 : Int), .i .i64 (0 : Int), .i .i64 (0 : Int), .b false, .l ([] : List (List D)), .s (⟨#[]⟩ : ByteArray)], .one (.b false)], [])
  else
   chk (decide (0 ≤ (1 : Int) ∧ (1 : Int) ≤ s1.size)) <|
   let y3 := t95 (s1.extract (1 : Int).toNat s1.size) false
   chk (okR zr95 zo95 y3) <|
   let y4 := t95 (asS (outC y3 0 0)) (asB (outC y3 0 1))
   chk (okR zr95 zo95 y4) <|
   let y5 := t95 (asS (outC y4 0 0)) (asB (outC y4 0 1))
   chk (okR zr95 zo95 y5) <|
   let y6 := t95 (asS (outC y5 0 0)) (asB (outC y5 0 1))
   chk (okR zr95 zo95 y6) <|
   let y7 := t95 (asS (outC y6 0 0)) (asB (outC y6 0 1))
   chk (okR zr95 zo95 y7) <|
   let y8 := t95 (asS (outC y7 0 0)) (asB (outC y7 0 1))
   chk (okR zr95 zo95 y8) <|
   let y9 := t95 (asS (outC y8 0 0)) (asB (outC y8 0 1))
   chk (okR zr95 zo95 y9) <|
   let y10 := t95 (asS (outC y9 0 0)) (asB (outC y9 0 1))
   chk (okR zr95 zo95 y10) <|
   let y11 := t99 (asS (outC y10 0 0)) (asB (outC y10 0 1)) (4 : Int)
   chk (okR zr99 zo99 y11) <|
   let y12 := asI (resC y10 0 0)
   let y13 := asI (resC y3 0 0)
   let y14 := asI (resC y4 0 0)
   let y15 := asI (resC y5 0 0)
   let y16 := asI (resC y6 0 0)
   let y17 := asI (resC y7 0 0)
   let y18 := asI (resC y8 0 0)
   let y19 := asI (resC y9 0 0)
   let y20 := y12 == (1 : Int)
   la55o1 t39 t95 t97 t99 s1 false y12 y2 (asI (resC y11 0 0)) (0 : Int) (0 : Int) (0 : Int) (0 : Int) (0 : Int) (0 : Int) (0 : Int) false (⟨#[]⟩ : ByteArray) y13 y14 y15 y16 y17 y18 y19 y20 (⟨#[]⟩ : ByteArray)
    (fun (n90 : Int) (b91 : Bool) (s92 : ByteArray) (b93 : Bool) (l94 : List (List D)) =>
     let y21 := t39 y13 y14 y15 y16 y17 y18 y19 y20 l94 s92
     let y22 := b93 || (decide (y12 > (1 : Int)))
     chk ((okR zr39 zo39 y21) || !(!y22)) <|
     if y22 || (!(asB (resC y21 0 0))) then
      some ([.agg [.i .i64 (0 : Int), .i .i64 (0 : Int), .i .i64 (0 : Int), .i .i64 (0 : Int), .i .i64 (0 : Int), .i .i64 (0 : Int), .i .i64 (0 : Int), .b false, .l ([] : List (List D)), .s (⟨#[]⟩ : ByteArray)], .one (.b false)], [])
     else
      some ([.agg [.i .i64 y13, .i .i64 y14, .i .i64 y15, .i .i64 y16, .i .i64 y17, .i .i64 y18, .i .i64 y19, .b y20, .l l94, .s s92], .one (.b true)], [])) KK (0 : Int) SV.undef (asS (outC y11 0 0)) (asB (outC y11 0 1)) ([] : List (List D))
def t55 : ByteArray → Rs := ta55 t39 t95 t97 t99
def zr55 : List DV := [.agg [.i .i64 0, .i .i64 0, .i .i64 0, .i .i64 0, .i .i64 0, .i .i64 0, .i .i64 0, .b false, .l [], .s ⟨#[]⟩], .one (.b false)]
def zo55 : List (List D) := []
def A55 : List TA := [.one (.s)]
abbrev Y55 := ByteArray → Rs
/-- laws.eqEntry -/
def t117 (n1 : Int) (s2 : ByteArray) (n3 : Int) (s4 : ByteArray) : Rs :=
  if n1 != n3 then
   some ([.one (.b false)], [])
  else
   if !(s2.toList == s4.toList) then
    some ([.one (.b false)], [])
   else
    some ([.one (.b true)], [])
def zr117 : List DV := [.one (.b false)]
def zo117 : List (List D) := []
def A117 : List TA := [.agg [.i .i64, .s], .agg [.i .i64, .s]]
abbrev Y117 := Int → ByteArray → Int → ByteArray → Rs
def la80o1 (t117 : Y117) (l8 : List (List D)) (l9 : List (List D)) (b10 : Bool) (b12 : Bool) (q1 : Int → Bool → Bool → Rs) (q2 : Int → Bool → SV → Rs) : Nat → Int → SV → SV → Rs
  | 0, _, _, _ => none
  | m + 1, n11, v13, v14 =>
    let y1 := decide (n11 < (l8.length : Int))
    if y1 then
     let y2 := l8.getD n11.toNat []
     chk (decide (0 ≤ n11) && decide (n11 < l8.length) && isRow z119 y2) <|
     let y3 := l9.getD n11.toNat []
     chk (decide (0 ≤ n11) && decide (n11 < l9.length) && isRow z119 y3) <|
     let y4 := t117 (asI (nthD y2 0)) (asS (nthD y2 1)) (asI (nthD y3 0)) (asS (nthD y3 1))
     chk (okR zr117 zo117 y4) <|
     let y5 := !(asB (resC y4 0 0))
     if y5 then
      q1 n11 y1 y5
     else
      la80o1 t117 l8 l9 b10 b12 q1 q2 m (w64 (n11 + (1 : Int))) (.d (.b y1)) (.d (.b y5))
    else
     q2 n11 y1 (keepV [] v14)
/-- laws.eqEntryS -/
def ta80 (t117 : Y117) (l1 : List (List D)) (l2 : List (List D)) : Rs :=
  let y1 := (l1.length : Int) != (l2.length : Int)
  if y1 then
   some ([.one (.b false)], [])
  else
   la80o1 t117 l1 l2 false y1
    (fun (n28 : Int) (b29 : Bool) (b30 : Bool) =>
     some ([.one (.b false)], []))
    (fun (n31 : Int) (b32 : Bool) (v33 : SV) =>
     some ([.one (.b true)], [])) KK (0 : Int) SV.undef SV.undef
def t80 : List (List D) → List (List D) → Rs := ta80 t117
def zr80 : List DV := [.one (.b false)]
def zo80 : List (List D) := []
def A80 : List TA := [.one (.l), .one (.l)]
abbrev Y80 := List (List D) → List (List D) → Rs
/-- laws.eqMsg -/
def ta40 (t80 : Y80) (n1 : Int) (n2 : Int) (n3 : Int) (n4 : Int) (n5 : Int) (n6 : Int) (n7 : Int) (b8 : Bool) (l9 : List (List D)) (s10 : ByteArray) (n11 : Int) (n12 : Int) (n13 : Int) (n14 : Int) (n15 : Int) (n16 : Int) (n17 : Int) (b18 : Bool) (l19 : List (List D)) (s20 : ByteArray) : Rs :=
  if n1 != n11 then
   some ([.one (.b false)], [])
  else
   if n2 != n12 then
    some ([.one (.b false)], [])
   else
    if n3 != n13 then
     some ([.one (.b false)], [])
    else
     if n4 != n14 then
      some ([.one (.b false)], [])
     else
      if n5 != n15 then
       some ([.one (.b false)], [])
      else
       if n6 != n16 then
        some ([.one (.b false)], [])
       else
        if n7 != n17 then
         some ([.one (.b false)], [])
        else
         if !(b8 == b18) then
          some ([.one (.b false)], [])
         else
          chk (okR zr80 zo80 (t80 l9 l19)) <|
          if !(asB (resC (t80 l9 l19) 0 0)) then
           some ([.one (.b false)], [])
          else
           if !(s10.toList == s20.toList) then
            some ([.one (.b false)], [])
           else
            some ([.one (.b true)], [])
def t40 : Int → Int → Int → Int → Int → Int → Int → Bool → List (List D) → ByteArray → Int → Int → Int → Int → Int → Int → Int → Bool → List (List D) → ByteArray → Rs := ta40 t80
def zr40 : List DV := [.one (.b false)]
def zo40 : List (List D) := []
def A40 : List TA := [.agg [.i .i64, .i .i64, .i .i64, .i .i64, .i .i64, .i .i64, .i .i64, .b, .l, .s], .agg [.i .i64, .i .i64, .i .i64, .i .i64, .i .i64, .i .i64, .i .i64, .b, .l, .s]]
abbrev Y40 := Int → Int → Int → Int → Int → Int → Int → Bool → List (List D) → ByteArray → Int → Int → Int → Int → Int → Int → Int → Bool → List (List D) → ByteArray → Rs
def l98o1 (s7 : ByteArray) (b9 : Bool) (q1 : Int → ByteArray → Bool → Rs) : Nat → Int → ByteArray → SV → Rs
  | 0, _, _, _ => none
  | m + 1, n6, s8, v10 =>
    let y1 := decide (n6 > (0 : Int))
    if y1 then
     let y2 := ([[.i .u8 (IntKind.wrap .u8 (w64 ((48 : Int) + (n6.tmod (10 : Int)))))]] : List (List D))
     chk (isBytes y2) <|
     let y3 := ⟨(bytesD y2).toArray⟩
     chk (decide (y3.size + s8.size ≤ lim)) <|
     l98o1 s7 b9 q1 m (w64 (n6.tdiv (10 : Int))) (y3 ++ s8) (.d (.b y1))
    else
     q1 n6 s8 y1
/-- laws.markText -/
def t98 (n1 : Int) : Rs :=
  let y1 := decide (n1 ≤ (0 : Int))
  if y1 then
   some ([.one (.s (⟨#[109, 48]⟩ : ByteArray))], [])
  else
   l98o1 (⟨#[]⟩ : ByteArray) y1
    (fun (n19 : Int) (s20 : ByteArray) (b21 : Bool) =>
     chk (decide ((⟨#[109]⟩ : ByteArray).size + s20.size ≤ lim)) <|
     some ([.one (.s ((⟨#[109]⟩ : ByteArray) ++ s20))], [])) KK n1 (⟨#[]⟩ : ByteArray) SV.undef
def zr98 : List DV := [.one (.s ⟨#[]⟩)]
def zo98 : List (List D) := []
def A98 : List TA := [.one (.i .i64)]
abbrev Y98 := Int → Rs
def la100o0 (t98 : Y98) (n8 : Int) (q1 : Int → Int → Bool → List (List D) → Rs) : Nat → Int → Int → SV → List (List D) → Rs
  | 0, _, _, _, _ => none
  | m + 1, n7, n9, v10, l11 =>
    let y1 := decide (n9 < (l11.length : Int))
    if y1 then
     chk (decide (0 ≤ n9) && decide (n9 < l11.length)) <|
     chk (decide (1 ≤ 2 ∧ (n9.toNat) < l11.length)) <|
     let y2 := w64 (n7 + (1 : Int))
     let y3 := t98 y2
     chk (okR zr98 zo98 y3) <|
     let y4 := stR l11 (n9.toNat) 0 [.i .i64 n7]
     chk (decide (0 ≤ n9) && decide (n9 < y4.length)) <|
     chk (decide (2 ≤ 2 ∧ (n9.toNat) < y4.length)) <|
     la100o0 t98 n8 q1 m (w64 (y2 + (1 : Int))) (w64 (n9 + (1 : Int))) (.d (.b y1)) (stR y4 (n9.toNat) 1 [.s (asS (resC y3 0 0))])
    else
     q1 n7 n9 y1 l11
/-- laws.markEntryS -/
def ta100 (t98 : Y98) (l1 : List (List D)) (n2 : Int) : Rs :=
  la100o0 t98 (0 : Int)
   (fun (n21 : Int) (n22 : Int) (b23 : Bool) (l24 : List (List D)) =>
    some ([.one (.i .i64 n21)], [[.l l24]])) KK n2 (0 : Int) SV.undef l1
def t100 : List (List D) → Int → Rs := ta100 t98
def zr100 : List DV := [.one (.i .i64 0)]
def zo100 : List (List D) := [[.l []]]
def A100 : List TA := [.one (.l), .one (.i .i64)]
abbrev Y100 := List (List D) → Int → Rs
/-- laws.markMsg -/
def ta56 (t100 : Y100) (n1 : Int) (n2 : Int) (n3 : Int) (n4 : Int) (n5 : Int) (n6 : Int) (n7 : Int) (b8 : Bool) (l9 : List (List D)) (s10 : ByteArray) (n11 : Int) : Rs :=
  chk (okR zr100 zo100 (t100 l9 n11)) <|
  some ([.one (.i .i64 (asI (resC (t100 l9 n11) 0 0)))], [[.i .i64 n1, .i .i64 n2, .i .i64 n3, .i .i64 n4, .i .i64 n5, .i .i64 n6, .i .i64 n7, .b b8, .l (asL (outC (t100 l9 n11) 0 0)), .s s10]])
def t56 : Int → Int → Int → Int → Int → Int → Int → Bool → List (List D) → ByteArray → Int → Rs := ta56 t100
def zr56 : List DV := [.one (.i .i64 0)]
def zo56 : List (List D) := [[.i .i64 0, .i .i64 0, .i .i64 0, .i .i64 0, .i .i64 0, .i .i64 0, .i .i64 0, .b false, .l [], .s ⟨#[]⟩]]
def A56 : List TA := [.agg [.i .i64, .i .i64, .i .i64, .i .i64, .i .i64, .i .i64, .i .i64, .b, .l, .s], .one (.i .i64)]
abbrev Y56 := Int → Int → Int → Int → Int → Int → Int → Bool → List (List D) → ByteArray → Int → Rs
def la101o0 (t98 : Y98) (l7 : List (List D)) (n9 : Int) (q1 : Int → Int → Bool → Bool → SV → Rs) (q2 : Int → Int → Bool → Bool → Bool → Rs) (q3 : Int → Int → Bool → SV → SV → Rs) : Nat → Int → Int → SV → SV → SV → Rs
  | 0, _, _, _, _, _ => none
  | m + 1, n8, n10, v11, v12, v13 =>
    let y1 := decide (n10 < (l7.length : Int))
    if y1 then
     let y2 := l7.getD n10.toNat []
     chk (decide (0 ≤ n10) && decide (n10 < l7.length) && isRow z119 y2) <|
     let y3 := (asI (nthD y2 0)) != n8
     if y3 then
      q1 n8 n10 y1 y3 v13
     else
      let y4 := l7.getD n10.toNat []
      chk (decide (0 ≤ n10) && decide (n10 < l7.length) && isRow z119 y4) <|
      let y5 := w64 (n8 + (1 : Int))
      let y6 := t98 y5
      chk (okR zr98 zo98 y6) <|
      let y7 := !((asS (nthD y4 1)).toList == (asS (resC y6 0 0)).toList)
      if y7 then
       q2 y5 n10 y1 y3 y7
      else
       la101o0 t98 l7 n9 q1 q2 q3 m (w64 (y5 + (1 : Int))) (w64 (n10 + (1 : Int))) (.d (.b y1)) (.d (.b y3)) (.d (.b y7))
    else
     q3 n8 n10 y1 (keepV [] v12) (keepV [] v13)
/-- laws.heldEntryS -/
def ta101 (t98 : Y98) (l1 : List (List D)) (n2 : Int) : Rs :=
  la101o0 t98 l1 (0 : Int)
   (fun (n36 : Int) (n37 : Int) (b38 : Bool) (b39 : Bool) (v40 : SV) =>
    some ([.one (.i .i64 (-1 : Int))], []))
   (fun (n41 : Int) (n42 : Int) (b43 : Bool) (b44 : Bool) (b45 : Bool) =>
    some ([.one (.i .i64 (-1 : Int))], []))
   (fun (n46 : Int) (n47 : Int) (b48 : Bool) (v49 : SV) (v50 : SV) =>
    some ([.one (.i .i64 n46)], [])) KK n2 (0 : Int) SV.undef SV.undef SV.undef
def t101 : List (List D) → Int → Rs := ta101 t98
def zr101 : List DV := [.one (.i .i64 0)]
def zo101 : List (List D) := []
def A101 : List TA := [.one (.l), .one (.i .i64)]
abbrev Y101 := List (List D) → Int → Rs
/-- laws.heldMsg -/
def ta57 (t101 : Y101) (n1 : Int) (n2 : Int) (n3 : Int) (n4 : Int) (n5 : Int) (n6 : Int) (n7 : Int) (b8 : Bool) (l9 : List (List D)) (s10 : ByteArray) (n11 : Int) : Rs :=
  chk (okR zr101 zo101 (t101 l9 n11)) <|
  let y1 := asI (resC (t101 l9 n11) 0 0)
  if decide (y1 < (0 : Int)) then
   some ([.one (.i .i64 (-1 : Int))], [])
  else
   some ([.one (.i .i64 y1)], [])
def t57 : Int → Int → Int → Int → Int → Int → Int → Bool → List (List D) → ByteArray → Int → Rs := ta57 t101
def zr57 : List DV := [.one (.i .i64 0)]
def zo57 : List (List D) := []
def A57 : List TA := [.agg [.i .i64, .i .i64, .i .i64, .i .i64, .i .i64, .i .i64, .i .i64, .b, .l, .s], .one (.i .i64)]
abbrev Y57 := Int → Int → Int → Int → Int → Int → Int → Bool → List (List D) → ByteArray → Int → Rs
/-- laws.FnExactReadMsg -/
def ta13 (t40 : Y40) (t54 : Y54) (t55 : Y55) (t56 : Y56) (t57 : Y57) (s1 : ByteArray) : Rs :=
  if decide ((s1.size : Int) > (1048576 : Int)) then
   some ([.one (.b true)], [])
  else
   chk (okR zr54 zo54 (t54 s1)) <|
   chk (okR zr55 zo55 (t55 s1)) <|
   let y1 := asI (resC (t55 s1) 0 0)
   let y2 := asI (resC (t55 s1) 0 1)
   let y3 := asI (resC (t55 s1) 0 2)
   let y4 := asI (resC (t55 s1) 0 3)
   let y5 := asI (resC (t55 s1) 0 4)
   let y6 := asI (resC (t55 s1) 0 5)
   let y7 := asI (resC (t55 s1) 0 6)
   let y8 := asB (resC (t55 s1) 0 7)
   let y9 := asL (resC (t55 s1) 0 8)
   let y10 := asS (resC (t55 s1) 0 9)
   let y11 := asI (resC (t54 s1) 0 0)
   let y12 := asI (resC (t54 s1) 0 1)
   let y13 := asI (resC (t54 s1) 0 2)
   let y14 := asI (resC (t54 s1) 0 3)
   let y15 := asI (resC (t54 s1) 0 4)
   let y16 := asI (resC (t54 s1) 0 5)
   let y17 := asI (resC (t54 s1) 0 6)
   let y18 := asB (resC (t54 s1) 0 7)
   let y19 := asL (resC (t54 s1) 0 8)
   let y20 := asS (resC (t54 s1) 0 9)
   let y21 := t40 y1 y2 y3 y4 y5 y6 y7 y8 y9 y10 y11 y12 y13 y14 y15 y16 y17 y18 y19 y20
   chk (okR zr40 zo40 y21) <|
   let y22 := asB (resC (t54 s1) 1 0)
   if (!(asB (resC y21 0 0))) || (!((asB (resC (t55 s1) 1 0)) == y22)) then
    some ([.one (.b false)], [])
   else
    let y23 := t56 y1 y2 y3 y4 y5 y6 y7 y8 y9 y10 (1 : Int)
    chk (okR zr56 zo56 y23) <|
    let y24 := asL (outC y23 0 8)
    let y25 := t57 y1 y2 y3 y4 y5 y6 y7 y8 y24 y10 (1 : Int)
    chk (okR zr57 zo57 y25) <|
    let y26 := asI (resC y25 0 0)
    if decide (y26 < (0 : Int)) then
     some ([.one (.b false)], [])
    else
     let y27 := asI (resC y23 0 0)
     if y26 != y27 then
      some ([.one (.b false)], [])
     else
      chk (okR zr55 zo55 (t55 s1)) <|
      let y28 := t40 (asI (resC (t55 s1) 0 0)) (asI (resC (t55 s1) 0 1)) (asI (resC (t55 s1) 0 2)) (asI (resC (t55 s1) 0 3)) (asI (resC (t55 s1) 0 4)) (asI (resC (t55 s1) 0 5)) (asI (resC (t55 s1) 0 6)) (asB (resC (t55 s1) 0 7)) (asL (resC (t55 s1) 0 8)) (asS (resC (t55 s1) 0 9)) y11 y12 y13 y14 y15 y16 y17 y18 y19 y20
      chk (okR zr40 zo40 y28) <|
      if (!(asB (resC y28 0 0))) || (!((asB (resC (t55 s1) 1 0)) == y22)) then
       some ([.one (.b false)], [])
      else
       let y29 := t57 y1 y2 y3 y4 y5 y6 y7 y8 y24 y10 (1 : Int)
       chk (okR zr57 zo57 y29) <|
       let y30 := asI (resC y29 0 0)
       if decide (y30 < (0 : Int)) then
        some ([.one (.b false)], [])
       else
        if y30 != y27 then
         some ([.one (.b false)], [])
        else
         some ([.one (.b true)], [])
def t13 : ByteArray → Rs := ta13 t40 t54 t55 t56 t57
def zr13 : List DV := [.one (.b false)]
def zo13 : List (List D) := []
def A13 : List TA := [.one (.s)]
end
end Go.Den.L13
