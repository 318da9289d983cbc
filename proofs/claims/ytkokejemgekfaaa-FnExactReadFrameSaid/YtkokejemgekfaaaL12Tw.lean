/- What the functions come to, as plain Lean. Printed by tw.py. -/
import Derived.Test.YtkokejemgekfaaaDm7
set_option linter.unusedVariables false
namespace Go.Den.L12
open Go
noncomputable section
/-- The rounds that a loop is given: 2 ^ 64; so laid that nothing unfolds it. -/
noncomputable def KK : Nat := Classical.choose (⟨2 ^ 64, rfl⟩ : ∃ n : Nat, n = 2 ^ 64)
def w64 (x : Int) : Int := IntKind.wrap .i64 x
def chk (b : Bool) (x : Rs) : Rs := if b then x else none
def bitAnd (k : IntKind) (a b : Int) : Int := k.wrap (BitVec.ofInt k.bits a &&& BitVec.ofInt k.bits b).toNat
def bitOr (k : IntKind) (a b : Int) : Int := k.wrap (BitVec.ofInt k.bits a ||| BitVec.ofInt k.bits b).toNat
def bitXor (k : IntKind) (a b : Int) : Int := k.wrap (BitVec.ofInt k.bits a ^^^ BitVec.ofInt k.bits b).toNat
def stR (xs : List (List D)) (i off : Nat) (ys : List D) : List (List D) := xs.modify i fun r => r.take off ++ ys ++ r.drop (off + ys.length)
def z3 : List D := [.i .i64 0]
def z30 : List D := [.i .i64 0, .i .i64 0, .i .i64 0, .i .i64 0, .s ⟨#[]⟩, .s ⟨#[]⟩, .i .i64 0, .i .i64 0, .s ⟨#[]⟩]
/-- spec.l1In -/
def t60 (n1 : Int) (n2 : Int) (n3 : Int) : Rs :=
  some ([.one (.b ((decide (n1 ≥ n2)) && (decide (n1 ≤ n3))))], [])
def zr60 : List DV := [.one (.b false)]
def zo60 : List (List D) := []
def A60 : List TA := [.one (.i .i64), .one (.i .i64), .one (.i .i64)]
def v60 (vs : List Vr) : Rs := t60 (vI vs 0) (vI vs 1) (vI vs 2)
def g60 (xs : List DV) : Bool × List DV × List (List D) := gOf zr60 zo60 (argsT A60 v60 xs)
def l89o1 (s7 : ByteArray) (b8 : Bool) (q1 : Int → Bool → List (List D) → Rs) : Nat → Int → SV → List (List D) → Rs
  | 0, _, _, _ => none
  | m + 1, n6, v9, l10 =>
    let y1 := decide (n6 ≥ (128 : Int))
    if y1 then
     let y2 := ([[.i .u8 (IntKind.wrap .u8 (w64 ((128 : Int) + (n6.tmod (128 : Int)))))]] : List (List D))
     chk ((flatR 1 y2) && decide (l10.length + y2.length ≤ lim)) <|
     l89o1 s7 b8 q1 m (w64 (n6.tdiv (128 : Int))) (.d (.b y1)) (l10 ++ y2)
    else
     q1 n6 y1 l10
/-- spec.Var -/
def t89 (n1 : Int) : Rs :=
  let y1 := t60 n1 (0 : Int) (562949953421311 : Int)
  chk (okR zr60 zo60 y1) <|
  let y2 := !(asB (resC y1 0 0))
  if y2 then
   some ([.one (.s (⟨#[]⟩ : ByteArray))], [])
  else
   l89o1 (⟨#[]⟩ : ByteArray) y2
    (fun (n19 : Int) (b20 : Bool) (l21 : List (List D)) =>
     let y3 := ([[.i .u8 (IntKind.wrap .u8 n19)]] : List (List D))
     chk ((flatR 1 y3) && decide (l21.length + y3.length ≤ lim)) <|
     let y4 := l21 ++ y3
     chk (isBytes y4) <|
     some ([.one (.s ⟨(bytesD y4).toArray⟩)], [])) KK n1 SV.undef ([] : List (List D))
def zr89 : List DV := [.one (.s ⟨#[]⟩)]
def zo89 : List (List D) := []
def A89 : List TA := [.one (.i .i64)]
def v89 (vs : List Vr) : Rs := t89 (vI vs 0)
def g89 (xs : List DV) : Bool × List DV × List (List D) := gOf zr89 zo89 (argsT A89 v89 xs)
def l84o2 (s53 : ByteArray) (n54 : Int) (n55 : Int) (n56 : Int) (b59 : Bool) (q1 : Int → Int → Bool → SV → Rs) : Nat → Int → Int → SV → SV → Rs
  | 0, _, _, _, _ => none
  | m + 1, n57, n58, v60, v61 =>
    let y1 := decide (n58 ≥ (0 : Int))
    if y1 then
     chk (decide (0 ≤ n58 ∧ n58 < s53.size)) <|
     l84o2 s53 n54 n55 n56 b59 q1 m (w64 ((w64 (n57 * (128 : Int))) + ((w64 ((s53.get! n58.toNat).toNat)).tmod (128 : Int)))) (w64 (n58 - (1 : Int))) (.d (.b y1)) (keepV [] v61)
    else
     q1 n57 n58 y1 (keepV [] v61)
def l84o0 (s35 : ByteArray) (n36 : Int) (n37 : Int) (q1 : Int → Int → Int → Bool → Bool → Bool → Rs) (q2 : Int → SV → SV → Bool → SV → SV → Rs) : Nat → Int → SV → SV → SV → SV → SV → Rs
  | 0, _, _, _, _, _, _ => none
  | m + 1, n38, v39, v40, v41, v42, v43 =>
    let y1 := (decide (n38 ≤ (7 : Int))) && (decide (n38 ≤ (s35.size : Int)))
    if y1 then
     l84o2 s35 n36 n37 n38 y1
      (fun (n75 : Int) (n76 : Int) (b77 : Bool) (v78 : SV) =>
       chk (okR zr89 zo89 (t89 n75)) <|
       chk (decide (0 ≤ (0 : Int) ∧ (0 : Int) ≤ n38 ∧ n38 ≤ s35.size)) <|
       let y2 := (asS (resC (t89 n75) 0 0)).toList == (s35.extract (0 : Int).toNat n38.toNat).toList
       if y2 then
        q1 n75 n38 n76 y1 b77 y2
       else
        l84o0 s35 n36 n37 q1 q2 m (w64 (n38 + (1 : Int))) (.d (.i .i64 n75)) (.d (.i .i64 n76)) (.d (.b y1)) (.d (.b b77)) (.d (.b y2))) KK (0 : Int) (w64 (n38 - (1 : Int))) v42 v43
    else
     q2 n38 (keepV [] v39) (keepV [] v40) y1 (keepV [] v42) (keepV [] v43)
/-- spec.ReadVar -/
def t84 (s1 : ByteArray) : Rs :=
  l84o0 s1 (0 : Int) (0 : Int)
   (fun (n100 : Int) (n101 : Int) (n102 : Int) (b103 : Bool) (b104 : Bool) (b105 : Bool) =>
    some ([.one (.i .i64 n100), .one (.i .i64 n101)], []))
   (fun (n106 : Int) (v107 : SV) (v108 : SV) (b109 : Bool) (v110 : SV) (v111 : SV) =>
    some ([.one (.i .i64 (0 : Int)), .one (.i .i64 (0 : Int))], [])) KK (1 : Int) SV.undef SV.undef SV.undef SV.undef SV.undef
def zr84 : List DV := [.one (.i .i64 0), .one (.i .i64 0)]
def zo84 : List (List D) := []
def A84 : List TA := [.one (.s)]
def v84 (vs : List Vr) : Rs := t84 (vS vs 0)
def g84 (xs : List DV) : Bool × List DV × List (List D) := gOf zr84 zo84 (argsT A84 v84 xs)
def l92o0 (s10 : ByteArray) (n12 : Int) (n13 : Int) (q1 : Int → Int → SV → SV → Bool → Bool → SV → List (List D) → Rs) (q2 : Int → Int → Int → Int → Bool → Bool → Bool → List (List D) → Rs) (q3 : Int → Int → SV → SV → Bool → SV → SV → List (List D) → Rs) : Nat → Int → Int → SV → SV → SV → SV → SV → List (List D) → Rs
  | 0, _, _, _, _, _, _, _, _ => none
  | m + 1, n11, n14, v15, v16, v17, v18, v19, l20 =>
    let y1 := decide (n14 < n12)
    if y1 then
     let y2 := (decide (n11 < (0 : Int))) || (decide (n11 > (s10.size : Int)))
     if y2 then
      q1 n11 n14 v15 v16 y1 y2 v19 l20
     else
      chk (decide (0 ≤ n11 ∧ n11 ≤ s10.size)) <|
      let y3 := t84 (s10.extract n11.toNat s10.size)
      chk (okR zr84 zo84 y3) <|
      let y4 := asI (resC y3 1 0)
      let y5 := y4 == (0 : Int)
      if y5 then
       let y6 := asI (resC y3 0 0)
       q2 n11 n14 y6 y4 y1 y2 y5 l20
      else
       let y7 := asI (resC y3 0 0)
       let y8 := ([[.i .i64 y7]] : List (List D))
       chk ((flatR 1 y8) && decide (l20.length + y8.length ≤ lim)) <|
       l92o0 s10 n12 n13 q1 q2 q3 m (w64 (n11 + y4)) (w64 (n14 + (1 : Int))) (.d (.i .i64 y7)) (.d (.i .i64 y4)) (.d (.b y1)) (.d (.b y2)) (.d (.b y5)) (l20 ++ y8)
    else
     q3 n11 n14 (keepV [768] v15) (keepV [768] v16) y1 (keepV [768] v18) (keepV [768] v19) l20
/-- spec.l8Vars -/
def t92 (s1 : ByteArray) (n2 : Int) (n3 : Int) : Rs :=
  l92o0 s1 n3 (0 : Int)
   (fun (n56 : Int) (n57 : Int) (v58 : SV) (v59 : SV) (b60 : Bool) (b61 : Bool) (v62 : SV) (l63 : List (List D)) =>
    some ([.one (.l l63), .one (.i .i64 (-1 : Int))], []))
   (fun (n64 : Int) (n65 : Int) (n66 : Int) (n67 : Int) (b68 : Bool) (b69 : Bool) (b70 : Bool) (l71 : List (List D)) =>
    some ([.one (.l l71), .one (.i .i64 (-1 : Int))], []))
   (fun (n72 : Int) (n73 : Int) (v74 : SV) (v75 : SV) (b76 : Bool) (v77 : SV) (v78 : SV) (l79 : List (List D)) =>
    some ([.one (.l l79), .one (.i .i64 n72)], [])) KK n2 (0 : Int) SV.undef SV.undef SV.undef SV.undef SV.undef ([] : List (List D))
def zr92 : List DV := [.one (.l []), .one (.i .i64 0)]
def zo92 : List (List D) := []
def A92 : List TA := [.one (.s), .one (.i .i64), .one (.i .i64)]
def v92 (vs : List Vr) : Rs := t92 (vS vs 0) (vI vs 1) (vI vs 2)
def g92 (xs : List DV) : Bool × List DV × List (List D) := gOf zr92 zo92 (argsT A92 v92 xs)
/-- spec.l8Take -/
def t93 (s1 : ByteArray) (n2 : Int) : Rs :=
  let y1 := t92 s1 n2 (1 : Int)
  chk (okR zr92 zo92 y1) <|
  let y2 := asL (resC y1 0 0)
  let y3 := asI (resC y1 1 0)
  let y4 := decide (y3 < (0 : Int))
  chk ((decide (0 ≤ (0 : Int)) && decide ((0 : Int) < y2.length)) || !(!y4)) <|
  let y5 := y2.getD ((0 : Int).toNat) []
  chk ((decide (1 ≤ y5.length) && isF z3 0 y5) || !(!y4)) <|
  if y4 || (decide ((asI (nthD y5 0)) > (w64 ((s1.size : Int) - y3)))) then
   some ([.one (.s (⟨#[]⟩ : ByteArray)), .one (.i .i64 (-1 : Int))], [])
  else
   chk (decide (0 ≤ (0 : Int)) && decide ((0 : Int) < y2.length)) <|
   let y6 := y2.getD ((0 : Int).toNat) []
   chk (decide (1 ≤ y6.length) && isF z3 0 y6) <|
   let y7 := w64 (y3 + (asI (nthD y6 0)))
   chk (decide (0 ≤ y3 ∧ y3 ≤ y7 ∧ y7 ≤ s1.size)) <|
   chk (decide (0 ≤ (0 : Int)) && decide ((0 : Int) < y2.length)) <|
   let y8 := y2.getD ((0 : Int).toNat) []
   chk (decide (1 ≤ y8.length) && isF z3 0 y8) <|
   some ([.one (.s (s1.extract y3.toNat y7.toNat)), .one (.i .i64 (w64 (y3 + (asI (nthD y8 0)))))], [])
def zr93 : List DV := [.one (.s ⟨#[]⟩), .one (.i .i64 0)]
def zo93 : List (List D) := []
def A93 : List TA := [.one (.s), .one (.i .i64)]
def v93 (vs : List Vr) : Rs := t93 (vS vs 0) (vI vs 1)
def g93 (xs : List DV) : Bool × List DV × List (List D) := gOf zr93 zo93 (argsT A93 v93 xs)
/-- spec.l8Number -/
def t119 (n1 : Int) : Rs :=
  if (n1.tmod (2 : Int)) == (1 : Int) then
   some ([.one (.i .i64 (w64 ((w64 (-(w64 (n1 + (1 : Int))))).tdiv (2 : Int))))], [])
  else
   some ([.one (.i .i64 (w64 (n1.tdiv (2 : Int))))], [])
def zr119 : List DV := [.one (.i .i64 0)]
def zo119 : List (List D) := []
def A119 : List TA := [.one (.i .i64)]
def v119 (vs : List Vr) : Rs := t119 (vI vs 0)
def g119 (xs : List DV) : Bool × List DV × List (List D) := gOf zr119 zo119 (argsT A119 v119 xs)
/-- spec.CallOk -/
def t61 (n1 : Int) (s2 : ByteArray) (s3 : ByteArray) (n4 : Int) (n5 : Int) (s6 : ByteArray) : Rs :=
  let y1 := t60 n1 (1 : Int) (22 : Int)
  chk (okR zr60 zo60 y1) <|
  let y2 := t60 n4 (-1000000 : Int) (1000000 : Int)
  let y3 := (((!(asB (resC y1 0 0))) || (decide ((s2.size : Int) > (60 : Int)))) || (decide ((s3.size : Int) > (60 : Int)))) || (decide ((s6.size : Int) > (64 : Int)))
  chk ((okR zr60 zo60 y2) || !(!y3)) <|
  let y4 := t60 n5 (-1000000 : Int) (1000000 : Int)
  let y5 := y3 || (!(asB (resC y2 0 0)))
  chk ((okR zr60 zo60 y4) || !(!y5)) <|
  if y5 || (!(asB (resC y4 0 0))) then
   some ([.one (.b false)], [])
  else
   if (((!(s3.toList == (⟨#[]⟩ : ByteArray).toList)) && (n1 != (9 : Int))) && (n1 != (10 : Int))) && (n1 != (12 : Int)) then
    some ([.one (.b false)], [])
   else
    some ([.one (.b (((s6.toList == (⟨#[]⟩ : ByteArray).toList) || (n1 == (5 : Int))) || (n1 == (6 : Int))))], [])
def zr61 : List DV := [.one (.b false)]
def zo61 : List (List D) := []
def A61 : List TA := [.agg [.i .i64, .s, .s, .i .i64, .i .i64, .s]]
def v61 (vs : List Vr) : Rs := t61 (vI vs 0) (vS vs 1) (vS vs 2) (vI vs 3) (vI vs 4) (vS vs 5)
def g61 (xs : List DV) : Bool × List DV × List (List D) := gOf zr61 zo61 (argsT A61 v61 xs)
/-- spec.l8Piece -/
def t110 (s1 : ByteArray) : Rs :=
  let y1 := t89 (s1.size : Int)
  chk (okR zr89 zo89 y1) <|
  let y2 := asS (resC y1 0 0)
  chk (decide (y2.size + s1.size ≤ lim)) <|
  some ([.one (.s (y2 ++ s1))], [])
def zr110 : List DV := [.one (.s ⟨#[]⟩)]
def zo110 : List (List D) := []
def A110 : List TA := [.one (.s)]
def v110 (vs : List Vr) : Rs := t110 (vS vs 0)
def g110 (xs : List DV) : Bool × List DV × List (List D) := gOf zr110 zo110 (argsT A110 v110 xs)
/-- spec.l8Signed -/
def t111 (n1 : Int) : Rs :=
  if decide (n1 < (0 : Int)) then
   let y1 := t89 (w64 ((w64 ((-2 : Int) * n1)) - (1 : Int)))
   chk (okR zr89 zo89 y1) <|
   some ([.one (.s (asS (resC y1 0 0)))], [])
  else
   let y2 := t89 (w64 ((2 : Int) * n1))
   chk (okR zr89 zo89 y2) <|
   some ([.one (.s (asS (resC y2 0 0)))], [])
def zr111 : List DV := [.one (.s ⟨#[]⟩)]
def zo111 : List (List D) := []
def A111 : List TA := [.one (.i .i64)]
def v111 (vs : List Vr) : Rs := t111 (vI vs 0)
def g111 (xs : List DV) : Bool × List DV × List (List D) := gOf zr111 zo111 (argsT A111 v111 xs)
/-- spec.ShowCall -/
def t69 (n1 : Int) (s2 : ByteArray) (s3 : ByteArray) (n4 : Int) (n5 : Int) (s6 : ByteArray) : Rs :=
  let y1 := t61 n1 s2 s3 n4 n5 s6
  chk (okR zr61 zo61 y1) <|
  if !(asB (resC y1 0 0)) then
   some ([.one (.s (⟨#[]⟩ : ByteArray))], [])
  else
   chk (okR zr89 zo89 (t89 n1)) <|
   chk (okR zr110 zo110 (t110 s2)) <|
   let y2 := asS (resC (t89 n1) 0 0)
   let y3 := asS (resC (t110 s2) 0 0)
   chk (decide (y2.size + y3.size ≤ lim)) <|
   chk (okR zr110 zo110 (t110 s3)) <|
   let y4 := y2 ++ y3
   let y5 := asS (resC (t110 s3) 0 0)
   chk (decide (y4.size + y5.size ≤ lim)) <|
   chk (okR zr111 zo111 (t111 n4)) <|
   let y6 := y4 ++ y5
   let y7 := asS (resC (t111 n4) 0 0)
   chk (decide (y6.size + y7.size ≤ lim)) <|
   chk (okR zr111 zo111 (t111 n5)) <|
   let y8 := y6 ++ y7
   let y9 := asS (resC (t111 n5) 0 0)
   chk (decide (y8.size + y9.size ≤ lim)) <|
   chk (okR zr110 zo110 (t110 s6)) <|
   let y10 := y8 ++ y9
   let y11 := asS (resC (t110 s6) 0 0)
   chk (decide (y10.size + y11.size ≤ lim)) <|
   some ([.one (.s (y10 ++ y11))], [])
def zr69 : List DV := [.one (.s ⟨#[]⟩)]
def zo69 : List (List D) := []
def A69 : List TA := [.agg [.i .i64, .s, .s, .i .i64, .i .i64, .s]]
def v69 (vs : List Vr) : Rs := t69 (vI vs 0) (vS vs 1) (vS vs 2) (vI vs 3) (vI vs 4) (vS vs 5)
def g69 (xs : List DV) : Bool × List DV × List (List D) := gOf zr69 zo69 (argsT A69 v69 xs)
/-- spec.ReadCall -/
def t94 (s1 : ByteArray) : Rs :=
  let y1 := t92 s1 (0 : Int) (1 : Int)
  chk (okR zr92 zo92 y1) <|
  let y2 := t93 s1 (asI (resC y1 1 0))
  chk (okR zr93 zo93 y2) <|
  let y3 := t93 s1 (asI (resC y2 1 0))
  chk (okR zr93 zo93 y3) <|
  let y4 := t92 s1 (asI (resC y3 1 0)) (2 : Int)
  chk (okR zr92 zo92 y4) <|
  let y5 := t93 s1 (asI (resC y4 1 0))
  chk (okR zr93 zo93 y5) <|
  if decide ((asI (resC y5 1 0)) < (0 : Int)) then
   some ([.agg [.i .i64 (0 : Int), .s (⟨#[]⟩ : ByteArray), .s (⟨#[]⟩ : ByteArray), .i .i64 (0 : Int), .i .i64 (0 : Int), .s (⟨#[]⟩ : ByteArray)], .one (.b false)], [])
  else
   let y6 := asL (resC y1 0 0)
   chk (decide (0 ≤ (0 : Int)) && decide ((0 : Int) < y6.length)) <|
   let y7 := y6.getD ((0 : Int).toNat) []
   chk (decide (1 ≤ y7.length) && isF z3 0 y7) <|
   let y8 := asL (resC y4 0 0)
   chk (decide (0 ≤ (0 : Int)) && decide ((0 : Int) < y8.length)) <|
   let y9 := y8.getD ((0 : Int).toNat) []
   chk (decide (1 ≤ y9.length) && isF z3 0 y9) <|
   let y10 := t119 (asI (nthD y9 0))
   chk (okR zr119 zo119 y10) <|
   chk (decide (0 ≤ (1 : Int)) && decide ((1 : Int) < y8.length)) <|
   let y11 := y8.getD ((1 : Int).toNat) []
   chk (decide (1 ≤ y11.length) && isF z3 0 y11) <|
   let y12 := t119 (asI (nthD y11 0))
   chk (okR zr119 zo119 y12) <|
   let y13 := asI (nthD y7 0)
   let y14 := asS (resC y2 0 0)
   let y15 := asS (resC y3 0 0)
   let y16 := asI (resC y10 0 0)
   let y17 := asI (resC y12 0 0)
   let y18 := asS (resC y5 0 0)
   let y19 := t69 y13 y14 y15 y16 y17 y18
   chk (okR zr69 zo69 y19) <|
   if !((asS (resC y19 0 0)).toList == s1.toList) then
    some ([.agg [.i .i64 (0 : Int), .s (⟨#[]⟩ : ByteArray), .s (⟨#[]⟩ : ByteArray), .i .i64 (0 : Int), .i .i64 (0 : Int), .s (⟨#[]⟩ : ByteArray)], .one (.b false)], [])
   else
    some ([.agg [.i .i64 y13, .s y14, .s y15, .i .i64 y16, .i .i64 y17, .s y18], .one (.b true)], [])
def zr94 : List DV := [.agg [.i .i64 0, .s ⟨#[]⟩, .s ⟨#[]⟩, .i .i64 0, .i .i64 0, .s ⟨#[]⟩], .one (.b false)]
def zo94 : List (List D) := []
def A94 : List TA := [.one (.s)]
def v94 (vs : List Vr) : Rs := t94 (vS vs 0)
def g94 (xs : List DV) : Bool × List DV × List (List D) := gOf zr94 zo94 (argsT A94 v94 xs)
/-- spec.SlotOk -/
def t16 (n1 : Int) (n2 : Int) (n3 : Int) (n4 : Int) (s5 : ByteArray) (s6 : ByteArray) (n7 : Int) (n8 : Int) (s9 : ByteArray) : Rs :=
  let y1 := t60 n1 (0 : Int) (2 : Int)
  chk (okR zr60 zo60 y1) <|
  let y2 := t60 n2 (1 : Int) (3 : Int)
  let y3 := asB (resC y1 0 0)
  chk ((okR zr60 zo60 y2) || !y3) <|
  let y4 := t60 n3 (1 : Int) (1000000 : Int)
  let y5 := y3 && (asB (resC y2 0 0))
  chk ((okR zr60 zo60 y4) || !y5) <|
  let y6 := t61 n4 s5 s6 n7 n8 s9
  let y7 := y5 && (asB (resC y4 0 0))
  chk ((okR zr61 zo61 y6) || !y7) <|
  some ([.one (.b (y7 && (asB (resC y6 0 0))))], [])
def zr16 : List DV := [.one (.b false)]
def zo16 : List (List D) := []
def A16 : List TA := [.agg [.i .i64, .i .i64, .i .i64, .i .i64, .s, .s, .i .i64, .i .i64, .s]]
def v16 (vs : List Vr) : Rs := t16 (vI vs 0) (vI vs 1) (vI vs 2) (vI vs 3) (vS vs 4) (vS vs 5) (vI vs 6) (vI vs 7) (vS vs 8)
def g16 (xs : List DV) : Bool × List DV × List (List D) := gOf zr16 zo16 (argsT A16 v16 xs)
def l66o0 (l7 : List (List D)) (n8 : Int) (b9 : Bool) (q1 : Int → Bool → Bool → Rs) (q2 : Int → Bool → SV → Rs) : Nat → Int → SV → SV → Rs
  | 0, _, _, _ => none
  | m + 1, n10, v11, v12 =>
    let y1 := decide (n10 < (l7.length : Int))
    if y1 then
     let y2 := l7.getD n10.toNat []
     chk (decide (0 ≤ n10) && decide (n10 < l7.length) && isRow z30 y2) <|
     let y3 := t16 (asI (nthD y2 0)) (asI (nthD y2 1)) (asI (nthD y2 2)) (asI (nthD y2 3)) (asS (nthD y2 4)) (asS (nthD y2 5)) (asI (nthD y2 6)) (asI (nthD y2 7)) (asS (nthD y2 8))
     chk (okR zr16 zo16 y3) <|
     let y4 := w64 (n10 - (1 : Int))
     let y5 := l7.getD y4.toNat []
     let y6 := !(asB (resC y3 0 0))
     let y7 := !y6
     let y8 := decide (n10 > (0 : Int))
     chk ((decide (0 ≤ y4) && decide (y4 < l7.length) && isRow z30 y5) || !(y7 && y8)) <|
     let y9 := l7.getD n10.toNat []
     chk ((decide (0 ≤ n10) && decide (n10 < l7.length) && isRow z30 y9) || !(y7 && y8)) <|
     let y10 := w64 (n10 - n8)
     let y11 := l7.getD y10.toNat []
     let y12 := y6 || (y8 && (decide ((asI (nthD y5 0)) > (asI (nthD y9 0)))))
     let y13 := !y12
     let y14 := decide (n10 ≥ n8)
     chk ((decide (0 ≤ y10) && decide (y10 < l7.length) && isRow z30 y11) || !(y13 && y14)) <|
     let y15 := l7.getD n10.toNat []
     chk ((decide (0 ≤ n10) && decide (n10 < l7.length) && isRow z30 y15) || !(y13 && y14)) <|
     let y16 := y12 || (y14 && ((asI (nthD y11 0)) == (asI (nthD y15 0))))
     if y16 then
      q1 n10 y1 y16
     else
      l66o0 l7 n8 b9 q1 q2 m (w64 (n10 + (1 : Int))) (.d (.b y1)) (.d (.b y16))
    else
     q2 n10 y1 (keepV [] v12)
/-- spec.l11Grouped -/
def t66 (l1 : List (List D)) (n2 : Int) : Rs :=
  l66o0 l1 n2 false
   (fun (n25 : Int) (b26 : Bool) (b27 : Bool) =>
    some ([.one (.b false)], []))
   (fun (n28 : Int) (b29 : Bool) (v30 : SV) =>
    some ([.one (.b true)], [])) KK (0 : Int) SV.undef SV.undef
def zr66 : List DV := [.one (.b false)]
def zo66 : List (List D) := []
def A66 : List TA := [.one (.l), .one (.i .i64)]
def v66 (vs : List Vr) : Rs := t66 (vL vs 0) (vI vs 1)
def g66 (xs : List DV) : Bool × List DV × List (List D) := gOf zr66 zo66 (argsT A66 v66 xs)
/-- spec.FrameOk -/
def t29 (l1 : List (List D)) : Rs :=
  let y1 := t66 l1 (2 : Int)
  chk (okR zr66 zo66 y1) <|
  some ([.one (.b (asB (resC y1 0 0)))], [])
def zr29 : List DV := [.one (.b false)]
def zo29 : List (List D) := []
def A29 : List TA := [.one (.l)]
def v29 (vs : List Vr) : Rs := t29 (vL vs 0)
def g29 (xs : List DV) : Bool × List DV × List (List D) := gOf zr29 zo29 (argsT A29 v29 xs)
/-- spec.l11Slot -/
def t81 (n1 : Int) (n2 : Int) (n3 : Int) (n4 : Int) (s5 : ByteArray) (s6 : ByteArray) (n7 : Int) (n8 : Int) (s9 : ByteArray) : Rs :=
  chk (okR zr89 zo89 (t89 n1)) <|
  chk (okR zr89 zo89 (t89 n2)) <|
  let y1 := asS (resC (t89 n1) 0 0)
  let y2 := asS (resC (t89 n2) 0 0)
  chk (decide (y1.size + y2.size ≤ lim)) <|
  chk (okR zr89 zo89 (t89 n3)) <|
  let y3 := y1 ++ y2
  let y4 := asS (resC (t89 n3) 0 0)
  chk (decide (y3.size + y4.size ≤ lim)) <|
  let y5 := t69 n4 s5 s6 n7 n8 s9
  chk (okR zr69 zo69 y5) <|
  let y6 := t110 (asS (resC y5 0 0))
  chk (okR zr110 zo110 y6) <|
  let y7 := y3 ++ y4
  let y8 := asS (resC y6 0 0)
  chk (decide (y7.size + y8.size ≤ lim)) <|
  some ([.one (.s (y7 ++ y8))], [])
def zr81 : List DV := [.one (.s ⟨#[]⟩)]
def zo81 : List (List D) := []
def A81 : List TA := [.agg [.i .i64, .i .i64, .i .i64, .i .i64, .s, .s, .i .i64, .i .i64, .s]]
def v81 (vs : List Vr) : Rs := t81 (vI vs 0) (vI vs 1) (vI vs 2) (vI vs 3) (vS vs 4) (vS vs 5) (vI vs 6) (vI vs 7) (vS vs 8)
def g81 (xs : List DV) : Bool × List DV × List (List D) := gOf zr81 zo81 (argsT A81 v81 xs)
def l41o1 (l7 : List (List D)) (s8 : ByteArray) (b11 : Bool) (q1 : ByteArray → Int → Bool → Rs) : Nat → ByteArray → Int → SV → Rs
  | 0, _, _, _ => none
  | m + 1, s9, n10, v12 =>
    let y1 := decide (n10 < (l7.length : Int))
    if y1 then
     let y2 := l7.getD n10.toNat []
     chk (decide (0 ≤ n10) && decide (n10 < l7.length) && isRow z30 y2) <|
     let y3 := t81 (asI (nthD y2 0)) (asI (nthD y2 1)) (asI (nthD y2 2)) (asI (nthD y2 3)) (asS (nthD y2 4)) (asS (nthD y2 5)) (asI (nthD y2 6)) (asI (nthD y2 7)) (asS (nthD y2 8))
     chk (okR zr81 zo81 y3) <|
     let y4 := asS (resC y3 0 0)
     chk (decide (s9.size + y4.size ≤ lim)) <|
     l41o1 l7 s8 b11 q1 m (s9 ++ y4) (w64 (n10 + (1 : Int))) (.d (.b y1))
    else
     q1 s9 n10 y1
/-- spec.ShowFrame -/
def t41 (l1 : List (List D)) : Rs :=
  chk (okR zr29 zo29 (t29 l1)) <|
  let y1 := !(asB (resC (t29 l1) 0 0))
  if y1 then
   some ([.one (.s (⟨#[]⟩ : ByteArray))], [])
  else
   l41o1 l1 (⟨#[]⟩ : ByteArray) y1
    (fun (s22 : ByteArray) (n23 : Int) (b24 : Bool) =>
     some ([.one (.s s22)], [])) KK (⟨#[102]⟩ : ByteArray) (0 : Int) SV.undef
def zr41 : List DV := [.one (.s ⟨#[]⟩)]
def zo41 : List (List D) := []
def A41 : List TA := [.one (.l)]
def v41 (vs : List Vr) : Rs := t41 (vL vs 0)
def g41 (xs : List DV) : Bool × List DV × List (List D) := gOf zr41 zo41 (argsT A41 v41 xs)
def l50o1 (s7 : ByteArray) (b8 : Bool) (b13 : Bool) (q1 : Int → Int → ByteArray → Bool → Bool → Bool → List (List D) → List (List D) → Int → ByteArray → ByteArray → Int → Int → ByteArray → List (List D) → Rs) (q2 : Int → SV → SV → SV → Bool → SV → List (List D) → Rs) : Nat → Int → SV → SV → SV → SV → SV → List (List D) → Rs
  | 0, _, _, _, _, _, _, _ => none
  | m + 1, n9, v10, v11, v12, v14, v15, l16 =>
    let y1 := decide (n9 < (s7.size : Int))
    if y1 then
     let y2 := t92 s7 n9 (3 : Int)
     chk (okR zr92 zo92 y2) <|
     let y3 := t93 s7 (asI (resC y2 1 0))
     chk (okR zr93 zo93 y3) <|
     let y4 := asS (resC y3 0 0)
     let y5 := t94 y4
     chk (okR zr94 zo94 y5) <|
     let y6 := asI (resC y3 1 0)
     let y7 := asB (resC y5 1 0)
     let y8 := (decide (y6 < (0 : Int))) || (!y7)
     if y8 then
      let y9 := asL (resC y2 0 0)
      let y10 := asI (resC y5 0 0)
      let y11 := asS (resC y5 0 1)
      let y12 := asS (resC y5 0 2)
      let y13 := asI (resC y5 0 3)
      let y14 := asI (resC y5 0 4)
      let y15 := asS (resC y5 0 5)
      q1 n9 y6 y4 y7 y1 y8 l16 y9 y10 y11 y12 y13 y14 y15 ([] : List (List D))
     else
      let y16 := asL (resC y2 0 0)
      chk (decide (0 ≤ (0 : Int)) && decide ((0 : Int) < y16.length)) <|
      let y17 := y16.getD ((0 : Int).toNat) []
      chk (decide (1 ≤ y17.length) && isF z3 0 y17) <|
      chk (decide (0 ≤ (1 : Int)) && decide ((1 : Int) < y16.length)) <|
      let y18 := y16.getD ((1 : Int).toNat) []
      chk (decide (1 ≤ y18.length) && isF z3 0 y18) <|
      chk (decide (0 ≤ (2 : Int)) && decide ((2 : Int) < y16.length)) <|
      let y19 := y16.getD ((2 : Int).toNat) []
      chk (decide (1 ≤ y19.length) && isF z3 0 y19) <|
      let y20 := asI (resC y5 0 0)
      let y21 := asS (resC y5 0 1)
      let y22 := asS (resC y5 0 2)
      let y23 := asI (resC y5 0 3)
      let y24 := asI (resC y5 0 4)
      let y25 := asS (resC y5 0 5)
      let y26 := ([[.i .i64 (asI (nthD y17 0)), .i .i64 (asI (nthD y18 0)), .i .i64 (asI (nthD y19 0)), .i .i64 y20, .s y21, .s y22, .i .i64 y23, .i .i64 y24, .s y25]] : List (List D))
      chk ((flatR 9 y26) && decide (l16.length + y26.length ≤ lim)) <|
      l50o1 s7 b8 b13 q1 q2 m y6 (.d (.i .i64 y6)) (.d (.s y4)) (.d (.b y7)) (.d (.b y1)) (.d (.b y8)) (l16 ++ y26)
    else
     q2 n9 (keepV [704] v10) (keepV [704] v11) (keepV [704] v12) y1 (keepV [704] v15) l16
/-- spec.ReadFrame -/
def t50 (s1 : ByteArray) : Rs :=
  let y1 := ((s1.size : Int) == (0 : Int)) || (decide ((s1.size : Int) > (1600 : Int)))
  if y1 then
   some ([.one (.l ([] : List (List D))), .one (.b false)], [])
  else
   l50o1 s1 false y1
    (fun (n49 : Int) (n50 : Int) (s51 : ByteArray) (b52 : Bool) (b53 : Bool) (b54 : Bool) (l55 : List (List D)) (l56 : List (List D)) (n57 : Int) (s58 : ByteArray) (s59 : ByteArray) (n60 : Int) (n61 : Int) (s62 : ByteArray) (l63 : List (List D)) =>
     some ([.one (.l l63), .one (.b false)], []))
    (fun (n64 : Int) (v65 : SV) (v66 : SV) (v67 : SV) (b68 : Bool) (v69 : SV) (l70 : List (List D)) =>
     chk (okR zr41 zo41 (t41 l70)) <|
     if !((asS (resC (t41 l70) 0 0)).toList == s1.toList) then
      some ([.one (.l ([] : List (List D))), .one (.b false)], [])
     else
      some ([.one (.l l70), .one (.b true)], [])) KK (1 : Int) SV.undef SV.undef SV.undef SV.undef SV.undef ([] : List (List D))
def zr50 : List DV := [.one (.l []), .one (.b false)]
def zo50 : List (List D) := []
def A50 : List TA := [.one (.s)]
def v50 (vs : List Vr) : Rs := t50 (vS vs 0)
def g50 (xs : List DV) : Bool × List DV × List (List D) := gOf zr50 zo50 (argsT A50 v50 xs)
def l86o0 (s7 : ByteArray) (n8 : Int) (n9 : Int) (q1 : Int → Int → Int → Int → Int → Bool → Bool → Bool → Rs) (q2 : Int → Int → SV → Bool → SV → Rs) : Nat → Int → Int → SV → SV → SV → Rs
  | 0, _, _, _, _, _ => none
  | m + 1, n10, n11, v12, v13, v14 =>
    let y1 := (decide (n11 < (s7.size : Int))) && (decide (n11 < (7 : Int)))
    if y1 then
     chk (decide (0 ≤ n11 ∧ n11 < s7.size)) <|
     let y2 := w64 ((7 : Int) * n11)
     chk (decide (0 ≤ y2)) <|
     let y3 := w64 ((s7.get! n11.toNat).toNat)
     let y4 := decide (y3 > (127 : Int))
     if y4 then
      let y5 := bitOr .i64 n10 (w64 ((bitAnd .i64 y3 (127 : Int)) * 2 ^ (min y2.toNat (IntKind.bits .i64))))
      l86o0 s7 n8 n9 q1 q2 m y5 (w64 (n11 + (1 : Int))) (.d (.i .i64 y3)) (.d (.b y1)) (.d (.b y4))
     else
      let y6 := (y3 == (0 : Int)) && (decide (n11 > (0 : Int)))
      if y6 then
       let y7 := bitOr .i64 n10 (w64 ((bitAnd .i64 y3 (127 : Int)) * 2 ^ (min y2.toNat (IntKind.bits .i64))))
       q1 (0 : Int) (0 : Int) y7 n11 y3 y1 y4 y6
      else
       let y8 := bitOr .i64 n10 (w64 ((bitAnd .i64 y3 (127 : Int)) * 2 ^ (min y2.toNat (IntKind.bits .i64))))
       q1 y8 (w64 (n11 + (1 : Int))) y8 n11 y3 y1 y4 y6
    else
     q2 n10 n11 (keepV [] v12) y1 (keepV [] v14)
/-- impl.ReadVar -/
def t86 (s1 : ByteArray) : Rs :=
  l86o0 s1 (0 : Int) (0 : Int)
   (fun (n36 : Int) (n37 : Int) (n38 : Int) (n39 : Int) (n40 : Int) (b41 : Bool) (b42 : Bool) (b43 : Bool) =>
    some ([.one (.i .i64 n36), .one (.i .i64 n37)], []))
   (fun (n44 : Int) (n45 : Int) (v46 : SV) (b47 : Bool) (v48 : SV) =>
    some ([.one (.i .i64 (0 : Int)), .one (.i .i64 (0 : Int))], [])) KK (0 : Int) (0 : Int) SV.undef SV.undef SV.undef
def zr86 : List DV := [.one (.i .i64 0), .one (.i .i64 0)]
def zo86 : List (List D) := []
def A86 : List TA := [.one (.s)]
def v86 (vs : List Vr) : Rs := t86 (vS vs 0)
def g86 (xs : List DV) : Bool × List DV × List (List D) := gOf zr86 zo86 (argsT A86 v86 xs)
/-- (*impl.reader).num -/
def t95 (s1 : ByteArray) (b2 : Bool) : Rs :=
  chk (okR zr86 zo86 (t86 s1)) <|
  let y1 := asI (resC (t86 s1) 1 0)
  if b2 || (y1 == (0 : Int)) then
   some ([.one (.i .i64 (0 : Int))], [[.s s1, .b true]])
  else
   chk (decide (0 ≤ y1 ∧ y1 ≤ s1.size)) <|
   some ([.one (.i .i64 (asI (resC (t86 s1) 0 0)))], [[.s (s1.extract y1.toNat s1.size), .b b2]])
def zr95 : List DV := [.one (.i .i64 0)]
def zo95 : List (List D) := [[.s ⟨#[]⟩, .b false]]
def A95 : List TA := [.ptr [.s, .b]]
def v95 (vs : List Vr) : Rs := t95 (vS vs 0) (vB vs 1)
def g95 (xs : List DV) : Bool × List DV × List (List D) := gOf zr95 zo95 (argsT A95 v95 xs)
/-- (*impl.reader).text -/
def t121 (s1 : ByteArray) (b2 : Bool) (n3 : Int) : Rs :=
  if b2 || (decide (n3 > (s1.size : Int))) then
   some ([.one (.s (⟨#[]⟩ : ByteArray))], [[.s s1, .b true]])
  else
   chk (decide (0 ≤ (0 : Int) ∧ (0 : Int) ≤ n3 ∧ n3 ≤ s1.size)) <|
   chk (decide (0 ≤ n3 ∧ n3 ≤ s1.size)) <|
   some ([.one (.s (s1.extract (0 : Int).toNat n3.toNat))], [[.s (s1.extract n3.toNat s1.size), .b b2]])
def zr121 : List DV := [.one (.s ⟨#[]⟩)]
def zo121 : List (List D) := [[.s ⟨#[]⟩, .b false]]
def A121 : List TA := [.ptr [.s, .b], .one (.i .i64)]
def v121 (vs : List Vr) : Rs := t121 (vS vs 0) (vB vs 1) (vI vs 2)
def g121 (xs : List DV) : Bool × List DV × List (List D) := gOf zr121 zo121 (argsT A121 v121 xs)
/-- (*impl.reader).piece -/
def t97 (s1 : ByteArray) (b2 : Bool) : Rs :=
  chk (okR zr95 zo95 (t95 s1 b2)) <|
  let y1 := t121 (asS (outC (t95 s1 b2) 0 0)) (asB (outC (t95 s1 b2) 0 1)) (asI (resC (t95 s1 b2) 0 0))
  chk (okR zr121 zo121 y1) <|
  some ([.one (.s (asS (resC y1 0 0)))], [[.s (asS (outC y1 0 0)), .b (asB (outC y1 0 1))]])
def zr97 : List DV := [.one (.s ⟨#[]⟩)]
def zo97 : List (List D) := [[.s ⟨#[]⟩, .b false]]
def A97 : List TA := [.ptr [.s, .b]]
def v97 (vs : List Vr) : Rs := t97 (vS vs 0) (vB vs 1)
def g97 (xs : List DV) : Bool × List DV × List (List D) := gOf zr97 zo97 (argsT A97 v97 xs)
/-- impl.unsigned -/
def t120 (n1 : Int) : Rs :=
  if (n1.tmod (2 : Int)) == (1 : Int) then
   some ([.one (.i .i64 (w64 ((w64 (-(w64 (n1 + (1 : Int))))).tdiv (2 : Int))))], [])
  else
   some ([.one (.i .i64 (w64 (n1.tdiv (2 : Int))))], [])
def zr120 : List DV := [.one (.i .i64 0)]
def zo120 : List (List D) := []
def A120 : List TA := [.one (.i .i64)]
def v120 (vs : List Vr) : Rs := t120 (vI vs 0)
def g120 (xs : List DV) : Bool × List DV × List (List D) := gOf zr120 zo120 (argsT A120 v120 xs)
/-- impl.within -/
def t62 (n1 : Int) (n2 : Int) (n3 : Int) : Rs :=
  some ([.one (.b ((decide (n1 ≥ n2)) && (decide (n1 ≤ n3))))], [])
def zr62 : List DV := [.one (.b false)]
def zo62 : List (List D) := []
def A62 : List TA := [.one (.i .i64), .one (.i .i64), .one (.i .i64)]
def v62 (vs : List Vr) : Rs := t62 (vI vs 0) (vI vs 1) (vI vs 2)
def g62 (xs : List DV) : Bool × List DV × List (List D) := gOf zr62 zo62 (argsT A62 v62 xs)
/-- impl.CallOk -/
def t63 (n1 : Int) (s2 : ByteArray) (s3 : ByteArray) (n4 : Int) (n5 : Int) (s6 : ByteArray) : Rs :=
  if ((!(((n1 == (9 : Int)) || (n1 == (10 : Int))) || (n1 == (12 : Int)))) && (!(s3.toList == (⟨#[]⟩ : ByteArray).toList))) || ((!((n1 == (5 : Int)) || (n1 == (6 : Int)))) && (!(s6.toList == (⟨#[]⟩ : ByteArray).toList))) then
   some ([.one (.b false)], [])
  else
   let y1 := t62 n1 (1 : Int) (22 : Int)
   chk (okR zr62 zo62 y1) <|
   let y2 := t62 n4 (-1000000 : Int) (1000000 : Int)
   let y3 := (((asB (resC y1 0 0)) && (decide ((s2.size : Int) ≤ (60 : Int)))) && (decide ((s3.size : Int) ≤ (60 : Int)))) && (decide ((s6.size : Int) ≤ (64 : Int)))
   chk ((okR zr62 zo62 y2) || !y3) <|
   let y4 := t62 n5 (-1000000 : Int) (1000000 : Int)
   let y5 := y3 && (asB (resC y2 0 0))
   chk ((okR zr62 zo62 y4) || !y5) <|
   some ([.one (.b (y5 && (asB (resC y4 0 0))))], [])
def zr63 : List DV := [.one (.b false)]
def zo63 : List (List D) := []
def A63 : List TA := [.agg [.i .i64, .s, .s, .i .i64, .i .i64, .s]]
def v63 (vs : List Vr) : Rs := t63 (vI vs 0) (vS vs 1) (vS vs 2) (vI vs 3) (vI vs 4) (vS vs 5)
def g63 (xs : List DV) : Bool × List DV × List (List D) := gOf zr63 zo63 (argsT A63 v63 xs)
/-- impl.ReadCall -/
def t96 (s1 : ByteArray) : Rs :=
  chk (okR zr95 zo95 (t95 s1 false)) <|
  let y1 := t97 (asS (outC (t95 s1 false) 0 0)) (asB (outC (t95 s1 false) 0 1))
  chk (okR zr97 zo97 y1) <|
  let y2 := t97 (asS (outC y1 0 0)) (asB (outC y1 0 1))
  chk (okR zr97 zo97 y2) <|
  let y3 := t95 (asS (outC y2 0 0)) (asB (outC y2 0 1))
  chk (okR zr95 zo95 y3) <|
  let y4 := t120 (asI (resC y3 0 0))
  chk (okR zr120 zo120 y4) <|
  let y5 := t95 (asS (outC y3 0 0)) (asB (outC y3 0 1))
  chk (okR zr95 zo95 y5) <|
  let y6 := t120 (asI (resC y5 0 0))
  chk (okR zr120 zo120 y6) <|
  let y7 := t97 (asS (outC y5 0 0)) (asB (outC y5 0 1))
  chk (okR zr97 zo97 y7) <|
  let y8 := asI (resC (t95 s1 false) 0 0)
  let y9 := asS (resC y1 0 0)
  let y10 := asS (resC y2 0 0)
  let y11 := asI (resC y4 0 0)
  let y12 := asI (resC y6 0 0)
  let y13 := asS (resC y7 0 0)
  let y14 := t63 y8 y9 y10 y11 y12 y13
  let y15 := (asB (outC y7 0 1)) || (!((asS (outC y7 0 0)).toList == (⟨#[]⟩ : ByteArray).toList))
  chk ((okR zr63 zo63 y14) || !(!y15)) <|
  if y15 || (!(asB (resC y14 0 0))) then
   some ([.agg [.i .i64 (0 : Int), .s (⟨#[]⟩ : ByteArray), .s (⟨#[]⟩ : ByteArray), .i .i64 (0 : Int), .i .i64 (0 : Int), .s (⟨#[]⟩ : ByteArray)], .one (.b false)], [])
  else
   some ([.agg [.i .i64 y8, .s y9, .s y10, .i .i64 y11, .i .i64 y12, .s y13], .one (.b true)], [])
def zr96 : List DV := [.agg [.i .i64 0, .s ⟨#[]⟩, .s ⟨#[]⟩, .i .i64 0, .i .i64 0, .s ⟨#[]⟩], .one (.b false)]
def zo96 : List (List D) := []
def A96 : List TA := [.one (.s)]
def v96 (vs : List Vr) : Rs := t96 (vS vs 0)
def g96 (xs : List DV) : Bool × List DV × List (List D) := gOf zr96 zo96 (argsT A96 v96 xs)
/-- impl.SlotOk -/
def t18 (n1 : Int) (n2 : Int) (n3 : Int) (n4 : Int) (s5 : ByteArray) (s6 : ByteArray) (n7 : Int) (n8 : Int) (s9 : ByteArray) : Rs :=
  let y1 := t62 n1 (0 : Int) (2 : Int)
  chk (okR zr62 zo62 y1) <|
  let y2 := t62 n2 (1 : Int) (3 : Int)
  let y3 := asB (resC y1 0 0)
  chk ((okR zr62 zo62 y2) || !y3) <|
  let y4 := t62 n3 (1 : Int) (1000000 : Int)
  let y5 := y3 && (asB (resC y2 0 0))
  chk ((okR zr62 zo62 y4) || !y5) <|
  let y6 := t63 n4 s5 s6 n7 n8 s9
  let y7 := y5 && (asB (resC y4 0 0))
  chk ((okR zr63 zo63 y6) || !y7) <|
  some ([.one (.b (y7 && (asB (resC y6 0 0))))], [])
def zr18 : List DV := [.one (.b false)]
def zo18 : List (List D) := []
def A18 : List TA := [.agg [.i .i64, .i .i64, .i .i64, .i .i64, .s, .s, .i .i64, .i .i64, .s]]
def v18 (vs : List Vr) : Rs := t18 (vI vs 0) (vI vs 1) (vI vs 2) (vI vs 3) (vS vs 4) (vS vs 5) (vI vs 6) (vI vs 7) (vS vs 8)
def g18 (xs : List DV) : Bool × List DV × List (List D) := gOf zr18 zo18 (argsT A18 v18 xs)
def l67o0 (l11 : List (List D)) (n12 : Int) (b13 : Bool) (l16 : List (List D)) (n17 : Int) (q1 : Int → Int → Bool → Bool → Bool → Int → Int → Int → Int → ByteArray → ByteArray → Int → Int → ByteArray → Rs) (q2 : Int → SV → Int → Bool → SV → SV → Rs) : Nat → Int → SV → Int → SV → SV → SV → Rs
  | 0, _, _, _, _, _, _ => none
  | m + 1, n14, v15, n18, v19, v20, v21 =>
    let y1 := decide (n18 < n17)
    if y1 then
     let y2 := l16.getD n18.toNat []
     chk (decide (0 ≤ n18) && decide (n18 < l16.length) && isRow z30 y2) <|
     let y3 := w64 (n18 - (1 : Int))
     let y4 := l11.getD y3.toNat []
     let y5 := decide (n18 > (0 : Int))
     chk ((decide (0 ≤ y3) && decide (y3 < l11.length) && isRow z30 y4) || !y5) <|
     let k1 := fun (n22 : Int) =>
      let y6 := asI (nthD y2 0)
      let y7 := asI (nthD y2 1)
      let y8 := asI (nthD y2 2)
      let y9 := asI (nthD y2 3)
      let y10 := asS (nthD y2 4)
      let y11 := asS (nthD y2 5)
      let y12 := asI (nthD y2 6)
      let y13 := asI (nthD y2 7)
      let y14 := asS (nthD y2 8)
      let y15 := t18 y6 y7 y8 y9 y10 y11 y12 y13 y14
      chk (okR zr18 zo18 y15) <|
      let y16 := w64 (n18 - (1 : Int))
      let y17 := l11.getD y16.toNat []
      let y18 := !(asB (resC y15 0 0))
      let y19 := decide (n18 > (0 : Int))
      chk ((decide (0 ≤ y16) && decide (y16 < l11.length) && isRow z30 y17) || !((!y18) && y19)) <|
      let y20 := (y18 || (y19 && (decide ((asI (nthD y17 0)) > y6)))) || (decide (n22 > n12))
      if y20 then
       let y21 := y5 && ((asI (nthD y4 0)) != y6)
       q1 n22 n18 y1 y21 y20 y6 y7 y8 y9 y10 y11 y12 y13 y14
      else
       let y22 := y5 && ((asI (nthD y4 0)) != y6)
       l67o0 l11 n12 b13 l16 n17 q1 q2 m n22 (.d (.i .i64 n18)) (w64 (n18 + (1 : Int))) (.d (.b y1)) (.d (.b y22)) (.d (.b y20))
     let y23 := asI (nthD y2 0)
     let y24 := y5 && ((asI (nthD y4 0)) != y23)
     if y24 then
      k1 (1 : Int)
     else
      k1 (w64 (n14 + (1 : Int)))
    else
     q2 n14 (keepV [] v15) n18 y1 (keepV [] v20) (keepV [] v21)
/-- impl.slotsOk -/
def t67 (l1 : List (List D)) (n2 : Int) : Rs :=
  l67o0 l1 n2 false l1 (l1.length : Int)
   (fun (n54 : Int) (n55 : Int) (b56 : Bool) (b57 : Bool) (b58 : Bool) (n59 : Int) (n60 : Int) (n61 : Int) (n62 : Int) (s63 : ByteArray) (s64 : ByteArray) (n65 : Int) (n66 : Int) (s67 : ByteArray) =>
    some ([.one (.b false)], []))
   (fun (n68 : Int) (v69 : SV) (n70 : Int) (b71 : Bool) (v72 : SV) (v73 : SV) =>
    some ([.one (.b true)], [])) KK (0 : Int) SV.undef (0 : Int) SV.undef SV.undef SV.undef
def zr67 : List DV := [.one (.b false)]
def zo67 : List (List D) := []
def A67 : List TA := [.one (.l), .one (.i .i64)]
def v67 (vs : List Vr) : Rs := t67 (vL vs 0) (vI vs 1)
def g67 (xs : List DV) : Bool × List DV × List (List D) := gOf zr67 zo67 (argsT A67 v67 xs)
/-- impl.FrameOk -/
def t31 (l1 : List (List D)) : Rs :=
  let y1 := t67 l1 (2 : Int)
  chk (okR zr67 zo67 y1) <|
  some ([.one (.b (asB (resC y1 0 0)))], [])
def zr31 : List DV := [.one (.b false)]
def zo31 : List (List D) := []
def A31 : List TA := [.one (.l)]
def v31 (vs : List Vr) : Rs := t31 (vL vs 0)
def g31 (xs : List DV) : Bool × List DV × List (List D) := gOf zr31 zo31 (argsT A31 v31 xs)
def l51o1 (s8 : ByteArray) (b9 : Bool) (b11 : Bool) (q1 : SV → Bool → ByteArray → Bool → List (List D) → Rs) : Nat → SV → SV → ByteArray → Bool → List (List D) → Rs
  | 0, _, _, _, _, _ => none
  | m + 1, v10, v12, s13, b14, l15 =>
    let y1 := (!(s13.toList == (⟨#[]⟩ : ByteArray).toList)) && (!b14)
    if y1 then
     chk (okR zr95 zo95 (t95 s13 b14)) <|
     let y2 := t95 (asS (outC (t95 s13 b14) 0 0)) (asB (outC (t95 s13 b14) 0 1))
     chk (okR zr95 zo95 y2) <|
     let y3 := t95 (asS (outC y2 0 0)) (asB (outC y2 0 1))
     chk (okR zr95 zo95 y3) <|
     let y4 := t97 (asS (outC y3 0 0)) (asB (outC y3 0 1))
     chk (okR zr97 zo97 y4) <|
     let y5 := t96 (asS (resC y4 0 0))
     chk (okR zr96 zo96 y5) <|
     let y6 := ([[.i .i64 (asI (resC (t95 s13 b14) 0 0)), .i .i64 (asI (resC y2 0 0)), .i .i64 (asI (resC y3 0 0)), .i .i64 (asI (resC y5 0 0)), .s (asS (resC y5 0 1)), .s (asS (resC y5 0 2)), .i .i64 (asI (resC y5 0 3)), .i .i64 (asI (resC y5 0 4)), .s (asS (resC y5 0 5))]] : List (List D))
     chk ((flatR 9 y6) && decide (l15.length + y6.length ≤ lim)) <|
     let y7 := asB (resC y5 1 0)
     l51o1 s8 b9 b11 q1 m (.d (.b y7)) (.d (.b y1)) (asS (outC y4 0 0)) ((asB (outC y4 0 1)) || (!y7)) (l15 ++ y6)
    else
     q1 (keepV [1216, 1280] v10) y1 s13 b14 l15
/-- impl.ReadFrame -/
def t51 (s1 : ByteArray) : Rs :=
  let y1 := s1.toList == (⟨#[]⟩ : ByteArray).toList
  chk ((decide (0 ≤ (0 : Int) ∧ (0 : Int) < s1.size)) || !(!y1)) <|
  let y2 := y1 || (((s1.get! (0 : Int).toNat).toNat) != (102 : Int))
  if y2 then
   some ([.one (.l ([] : List (List D))), .one (.b false)], [])
  else
   chk (decide (0 ≤ (1 : Int) ∧ (1 : Int) ≤ s1.size)) <|
   l51o1 s1 false y2
    (fun (v29 : SV) (b30 : Bool) (s31 : ByteArray) (b32 : Bool) (l33 : List (List D)) =>
     chk ((okR zr31 zo31 (t31 l33)) || !(!b32)) <|
     if b32 || (!(asB (resC (t31 l33) 0 0))) then
      some ([.one (.l ([] : List (List D))), .one (.b false)], [])
     else
      some ([.one (.l l33), .one (.b true)], [])) KK SV.undef SV.undef (s1.extract (1 : Int).toNat s1.size) false ([] : List (List D))
def zr51 : List DV := [.one (.l []), .one (.b false)]
def zo51 : List (List D) := []
def A51 : List TA := [.one (.s)]
def v51 (vs : List Vr) : Rs := t51 (vS vs 0)
def g51 (xs : List DV) : Bool × List DV × List (List D) := gOf zr51 zo51 (argsT A51 v51 xs)
/-- laws.eqCall -/
def t65 (n1 : Int) (s2 : ByteArray) (s3 : ByteArray) (n4 : Int) (n5 : Int) (s6 : ByteArray) (n7 : Int) (s8 : ByteArray) (s9 : ByteArray) (n10 : Int) (n11 : Int) (s12 : ByteArray) : Rs :=
  if n1 != n7 then
   some ([.one (.b false)], [])
  else
   if !(s2.toList == s8.toList) then
    some ([.one (.b false)], [])
   else
    if !(s3.toList == s9.toList) then
     some ([.one (.b false)], [])
    else
     if n4 != n10 then
      some ([.one (.b false)], [])
     else
      if n5 != n11 then
       some ([.one (.b false)], [])
      else
       if !(s6.toList == s12.toList) then
        some ([.one (.b false)], [])
       else
        some ([.one (.b true)], [])
def zr65 : List DV := [.one (.b false)]
def zo65 : List (List D) := []
def A65 : List TA := [.agg [.i .i64, .s, .s, .i .i64, .i .i64, .s], .agg [.i .i64, .s, .s, .i .i64, .i .i64, .s]]
def v65 (vs : List Vr) : Rs := t65 (vI vs 0) (vS vs 1) (vS vs 2) (vI vs 3) (vI vs 4) (vS vs 5) (vI vs 6) (vS vs 7) (vS vs 8) (vI vs 9) (vI vs 10) (vS vs 11)
def g65 (xs : List DV) : Bool × List DV × List (List D) := gOf zr65 zo65 (argsT A65 v65 xs)
/-- laws.eqSlot -/
def t68 (n1 : Int) (n2 : Int) (n3 : Int) (n4 : Int) (s5 : ByteArray) (s6 : ByteArray) (n7 : Int) (n8 : Int) (s9 : ByteArray) (n10 : Int) (n11 : Int) (n12 : Int) (n13 : Int) (s14 : ByteArray) (s15 : ByteArray) (n16 : Int) (n17 : Int) (s18 : ByteArray) : Rs :=
  if n1 != n10 then
   some ([.one (.b false)], [])
  else
   if n2 != n11 then
    some ([.one (.b false)], [])
   else
    if n3 != n12 then
     some ([.one (.b false)], [])
    else
     let y1 := t65 n4 s5 s6 n7 n8 s9 n13 s14 s15 n16 n17 s18
     chk (okR zr65 zo65 y1) <|
     if !(asB (resC y1 0 0)) then
      some ([.one (.b false)], [])
     else
      some ([.one (.b true)], [])
def zr68 : List DV := [.one (.b false)]
def zo68 : List (List D) := []
def A68 : List TA := [.agg [.i .i64, .i .i64, .i .i64, .i .i64, .s, .s, .i .i64, .i .i64, .s], .agg [.i .i64, .i .i64, .i .i64, .i .i64, .s, .s, .i .i64, .i .i64, .s]]
def v68 (vs : List Vr) : Rs := t68 (vI vs 0) (vI vs 1) (vI vs 2) (vI vs 3) (vS vs 4) (vS vs 5) (vI vs 6) (vI vs 7) (vS vs 8) (vI vs 9) (vI vs 10) (vI vs 11) (vI vs 12) (vS vs 13) (vS vs 14) (vI vs 15) (vI vs 16) (vS vs 17)
def g68 (xs : List DV) : Bool × List DV × List (List D) := gOf zr68 zo68 (argsT A68 v68 xs)
def l32o1 (l8 : List (List D)) (l9 : List (List D)) (b10 : Bool) (b12 : Bool) (q1 : Int → Bool → Bool → Rs) (q2 : Int → Bool → SV → Rs) : Nat → Int → SV → SV → Rs
  | 0, _, _, _ => none
  | m + 1, n11, v13, v14 =>
    let y1 := decide (n11 < (l8.length : Int))
    if y1 then
     let y2 := l8.getD n11.toNat []
     chk (decide (0 ≤ n11) && decide (n11 < l8.length) && isRow z30 y2) <|
     let y3 := l9.getD n11.toNat []
     chk (decide (0 ≤ n11) && decide (n11 < l9.length) && isRow z30 y3) <|
     let y4 := t68 (asI (nthD y2 0)) (asI (nthD y2 1)) (asI (nthD y2 2)) (asI (nthD y2 3)) (asS (nthD y2 4)) (asS (nthD y2 5)) (asI (nthD y2 6)) (asI (nthD y2 7)) (asS (nthD y2 8)) (asI (nthD y3 0)) (asI (nthD y3 1)) (asI (nthD y3 2)) (asI (nthD y3 3)) (asS (nthD y3 4)) (asS (nthD y3 5)) (asI (nthD y3 6)) (asI (nthD y3 7)) (asS (nthD y3 8))
     chk (okR zr68 zo68 y4) <|
     let y5 := !(asB (resC y4 0 0))
     if y5 then
      q1 n11 y1 y5
     else
      l32o1 l8 l9 b10 b12 q1 q2 m (w64 (n11 + (1 : Int))) (.d (.b y1)) (.d (.b y5))
    else
     q2 n11 y1 (keepV [] v14)
/-- laws.eqSlotS -/
def t32 (l1 : List (List D)) (l2 : List (List D)) : Rs :=
  let y1 := (l1.length : Int) != (l2.length : Int)
  if y1 then
   some ([.one (.b false)], [])
  else
   l32o1 l1 l2 false y1
    (fun (n28 : Int) (b29 : Bool) (b30 : Bool) =>
     some ([.one (.b false)], []))
    (fun (n31 : Int) (b32 : Bool) (v33 : SV) =>
     some ([.one (.b true)], [])) KK (0 : Int) SV.undef SV.undef
def zr32 : List DV := [.one (.b false)]
def zo32 : List (List D) := []
def A32 : List TA := [.one (.l), .one (.l)]
def v32 (vs : List Vr) : Rs := t32 (vL vs 0) (vL vs 1)
def g32 (xs : List DV) : Bool × List DV × List (List D) := gOf zr32 zo32 (argsT A32 v32 xs)
def l98o1 (s7 : ByteArray) (b9 : Bool) (q1 : Int → ByteArray → Bool → Rs) : Nat → Int → ByteArray → SV → Rs
  | 0, _, _, _ => none
  | m + 1, n6, s8, v10 =>
    let y1 := decide (n6 > (0 : Int))
    if y1 then
     let y2 := ([[.i .u8 (IntKind.wrap .u8 (w64 ((48 : Int) + (n6.tmod (10 : Int)))))]] : List (List D))
     chk (isBytes y2) <|
     let y3 := ⟨(bytesD y2).toArray⟩
     chk (decide (y3.size + s8.size ≤ lim)) <|
     l98o1 s7 b9 q1 m (w64 (n6.tdiv (10 : Int))) (y3 ++ s8) (.d (.b y1))
    else
     q1 n6 s8 y1
/-- laws.markText -/
def t98 (n1 : Int) : Rs :=
  let y1 := decide (n1 ≤ (0 : Int))
  if y1 then
   some ([.one (.s (⟨#[109, 48]⟩ : ByteArray))], [])
  else
   l98o1 (⟨#[]⟩ : ByteArray) y1
    (fun (n19 : Int) (s20 : ByteArray) (b21 : Bool) =>
     chk (decide ((⟨#[109]⟩ : ByteArray).size + s20.size ≤ lim)) <|
     some ([.one (.s ((⟨#[109]⟩ : ByteArray) ++ s20))], [])) KK n1 (⟨#[]⟩ : ByteArray) SV.undef
def zr98 : List DV := [.one (.s ⟨#[]⟩)]
def zo98 : List (List D) := []
def A98 : List TA := [.one (.i .i64)]
def v98 (vs : List Vr) : Rs := t98 (vI vs 0)
def g98 (xs : List DV) : Bool × List DV × List (List D) := gOf zr98 zo98 (argsT A98 v98 xs)
def l52o0 (n8 : Int) (q1 : Int → Int → Bool → List (List D) → Rs) : Nat → Int → Int → SV → List (List D) → Rs
  | 0, _, _, _, _ => none
  | m + 1, n7, n9, v10, l11 =>
    let y1 := decide (n9 < (l11.length : Int))
    if y1 then
     chk (decide (0 ≤ n9) && decide (n9 < l11.length)) <|
     chk (decide (1 ≤ 9 ∧ (n9.toNat) < l11.length)) <|
     let y2 := stR l11 (n9.toNat) 0 [.i .i64 n7]
     chk (decide (0 ≤ n9) && decide (n9 < y2.length)) <|
     chk (decide (2 ≤ 9 ∧ (n9.toNat) < y2.length)) <|
     let y3 := w64 (n7 + (1 : Int))
     let y4 := stR y2 (n9.toNat) 1 [.i .i64 y3]
     chk (decide (0 ≤ n9) && decide (n9 < y4.length)) <|
     chk (decide (3 ≤ 9 ∧ (n9.toNat) < y4.length)) <|
     let y5 := w64 (y3 + (1 : Int))
     let y6 := stR y4 (n9.toNat) 2 [.i .i64 y5]
     chk (decide (0 ≤ n9) && decide (n9 < y6.length)) <|
     chk (decide (4 ≤ 9 ∧ (n9.toNat) < y6.length)) <|
     let y7 := w64 (y5 + (1 : Int))
     let y8 := w64 (y7 + (1 : Int))
     let y9 := t98 y8
     chk (okR zr98 zo98 y9) <|
     let y10 := stR y6 (n9.toNat) 3 [.i .i64 y7]
     chk (decide (0 ≤ n9) && decide (n9 < y10.length)) <|
     chk (decide (5 ≤ 9 ∧ (n9.toNat) < y10.length)) <|
     let y11 := w64 (y8 + (1 : Int))
     let y12 := t98 y11
     chk (okR zr98 zo98 y12) <|
     let y13 := stR y10 (n9.toNat) 4 [.s (asS (resC y9 0 0))]
     chk (decide (0 ≤ n9) && decide (n9 < y13.length)) <|
     chk (decide (6 ≤ 9 ∧ (n9.toNat) < y13.length)) <|
     let y14 := stR y13 (n9.toNat) 5 [.s (asS (resC y12 0 0))]
     chk (decide (0 ≤ n9) && decide (n9 < y14.length)) <|
     chk (decide (7 ≤ 9 ∧ (n9.toNat) < y14.length)) <|
     let y15 := w64 (y11 + (1 : Int))
     let y16 := stR y14 (n9.toNat) 6 [.i .i64 y15]
     chk (decide (0 ≤ n9) && decide (n9 < y16.length)) <|
     chk (decide (8 ≤ 9 ∧ (n9.toNat) < y16.length)) <|
     let y17 := w64 (y15 + (1 : Int))
     let y18 := w64 (y17 + (1 : Int))
     let y19 := t98 y18
     chk (okR zr98 zo98 y19) <|
     let y20 := stR y16 (n9.toNat) 7 [.i .i64 y17]
     chk (decide (0 ≤ n9) && decide (n9 < y20.length)) <|
     chk (decide (9 ≤ 9 ∧ (n9.toNat) < y20.length)) <|
     l52o0 n8 q1 m (w64 (y18 + (1 : Int))) (w64 (n9 + (1 : Int))) (.d (.b y1)) (stR y20 (n9.toNat) 8 [.s (asS (resC y19 0 0))])
    else
     q1 n7 n9 y1 l11
/-- laws.markSlotS -/
def t52 (l1 : List (List D)) (n2 : Int) : Rs :=
  l52o0 (0 : Int)
   (fun (n21 : Int) (n22 : Int) (b23 : Bool) (l24 : List (List D)) =>
    some ([.one (.i .i64 n21)], [[.l l24]])) KK n2 (0 : Int) SV.undef l1
def zr52 : List DV := [.one (.i .i64 0)]
def zo52 : List (List D) := [[.l []]]
def A52 : List TA := [.one (.l), .one (.i .i64)]
def v52 (vs : List Vr) : Rs := t52 (vL vs 0) (vI vs 1)
def g52 (xs : List DV) : Bool × List DV × List (List D) := gOf zr52 zo52 (argsT A52 v52 xs)
def l53o0 (l7 : List (List D)) (n9 : Int) (q1 : Int → Int → Bool → Bool → SV → SV → SV → SV → SV → SV → SV → SV → Rs) (q2 : Int → Int → Bool → Bool → Bool → SV → SV → SV → SV → SV → SV → SV → Rs) (q3 : Int → Int → Bool → Bool → Bool → Bool → SV → SV → SV → SV → SV → SV → Rs) (q4 : Int → Int → Bool → Bool → Bool → Bool → Bool → SV → SV → SV → SV → SV → Rs) (q5 : Int → Int → Bool → Bool → Bool → Bool → Bool → Bool → SV → SV → SV → SV → Rs) (q6 : Int → Int → Bool → Bool → Bool → Bool → Bool → Bool → Bool → SV → SV → SV → Rs) (q7 : Int → Int → Bool → Bool → Bool → Bool → Bool → Bool → Bool → Bool → SV → SV → Rs) (q8 : Int → Int → Bool → Bool → Bool → Bool → Bool → Bool → Bool → Bool → Bool → SV → Rs) (q9 : Int → Int → Bool → Bool → Bool → Bool → Bool → Bool → Bool → Bool → Bool → Bool → Rs) (q10 : Int → Int → Bool → SV → SV → SV → SV → SV → SV → SV → SV → SV → Rs) : Nat → Int → Int → SV → SV → SV → SV → SV → SV → SV → SV → SV → SV → Rs
  | 0, _, _, _, _, _, _, _, _, _, _, _, _ => none
  | m + 1, n8, n10, v11, v12, v13, v14, v15, v16, v17, v18, v19, v20 =>
    let y1 := decide (n10 < (l7.length : Int))
    if y1 then
     let y2 := l7.getD n10.toNat []
     chk (decide (0 ≤ n10) && decide (n10 < l7.length) && isRow z30 y2) <|
     let y3 := (asI (nthD y2 0)) != n8
     if y3 then
      q1 n8 n10 y1 y3 v13 v14 v15 v16 v17 v18 v19 v20
     else
      let y4 := l7.getD n10.toNat []
      chk (decide (0 ≤ n10) && decide (n10 < l7.length) && isRow z30 y4) <|
      let y5 := w64 (n8 + (1 : Int))
      let y6 := (asI (nthD y4 1)) != y5
      if y6 then
       q2 y5 n10 y1 y3 y6 v14 v15 v16 v17 v18 v19 v20
      else
       let y7 := l7.getD n10.toNat []
       chk (decide (0 ≤ n10) && decide (n10 < l7.length) && isRow z30 y7) <|
       let y8 := w64 (y5 + (1 : Int))
       let y9 := (asI (nthD y7 2)) != y8
       if y9 then
        q3 y8 n10 y1 y3 y6 y9 v15 v16 v17 v18 v19 v20
       else
        let y10 := l7.getD n10.toNat []
        chk (decide (0 ≤ n10) && decide (n10 < l7.length) && isRow z30 y10) <|
        let y11 := w64 (y8 + (1 : Int))
        let y12 := (asI (nthD y10 3)) != y11
        if y12 then
         q4 y11 n10 y1 y3 y6 y9 y12 v16 v17 v18 v19 v20
        else
         let y13 := l7.getD n10.toNat []
         chk (decide (0 ≤ n10) && decide (n10 < l7.length) && isRow z30 y13) <|
         let y14 := w64 (y11 + (1 : Int))
         let y15 := t98 y14
         chk (okR zr98 zo98 y15) <|
         let y16 := !((asS (nthD y13 4)).toList == (asS (resC y15 0 0)).toList)
         if y16 then
          q5 y14 n10 y1 y3 y6 y9 y12 y16 v17 v18 v19 v20
         else
          let y17 := l7.getD n10.toNat []
          chk (decide (0 ≤ n10) && decide (n10 < l7.length) && isRow z30 y17) <|
          let y18 := w64 (y14 + (1 : Int))
          let y19 := t98 y18
          chk (okR zr98 zo98 y19) <|
          let y20 := !((asS (nthD y17 5)).toList == (asS (resC y19 0 0)).toList)
          if y20 then
           q6 y18 n10 y1 y3 y6 y9 y12 y16 y20 v18 v19 v20
          else
           let y21 := l7.getD n10.toNat []
           chk (decide (0 ≤ n10) && decide (n10 < l7.length) && isRow z30 y21) <|
           let y22 := w64 (y18 + (1 : Int))
           let y23 := (asI (nthD y21 6)) != y22
           if y23 then
            q7 y22 n10 y1 y3 y6 y9 y12 y16 y20 y23 v19 v20
           else
            let y24 := l7.getD n10.toNat []
            chk (decide (0 ≤ n10) && decide (n10 < l7.length) && isRow z30 y24) <|
            let y25 := w64 (y22 + (1 : Int))
            let y26 := (asI (nthD y24 7)) != y25
            if y26 then
             q8 y25 n10 y1 y3 y6 y9 y12 y16 y20 y23 y26 v20
            else
             let y27 := l7.getD n10.toNat []
             chk (decide (0 ≤ n10) && decide (n10 < l7.length) && isRow z30 y27) <|
             let y28 := w64 (y25 + (1 : Int))
             let y29 := t98 y28
             chk (okR zr98 zo98 y29) <|
             let y30 := !((asS (nthD y27 8)).toList == (asS (resC y29 0 0)).toList)
             if y30 then
              q9 y28 n10 y1 y3 y6 y9 y12 y16 y20 y23 y26 y30
             else
              l53o0 l7 n9 q1 q2 q3 q4 q5 q6 q7 q8 q9 q10 m (w64 (y28 + (1 : Int))) (w64 (n10 + (1 : Int))) (.d (.b y1)) (.d (.b y3)) (.d (.b y6)) (.d (.b y9)) (.d (.b y12)) (.d (.b y16)) (.d (.b y20)) (.d (.b y23)) (.d (.b y26)) (.d (.b y30))
    else
     q10 n8 n10 y1 (keepV [] v12) (keepV [] v13) (keepV [] v14) (keepV [] v15) (keepV [] v16) (keepV [] v17) (keepV [] v18) (keepV [] v19) (keepV [] v20)
/-- laws.heldSlotS -/
def t53 (l1 : List (List D)) (n2 : Int) : Rs :=
  l53o0 l1 (0 : Int)
   (fun (n155 : Int) (n156 : Int) (b157 : Bool) (b158 : Bool) (v159 : SV) (v160 : SV) (v161 : SV) (v162 : SV) (v163 : SV) (v164 : SV) (v165 : SV) (v166 : SV) =>
    some ([.one (.i .i64 (-1 : Int))], []))
   (fun (n167 : Int) (n168 : Int) (b169 : Bool) (b170 : Bool) (b171 : Bool) (v172 : SV) (v173 : SV) (v174 : SV) (v175 : SV) (v176 : SV) (v177 : SV) (v178 : SV) =>
    some ([.one (.i .i64 (-1 : Int))], []))
   (fun (n179 : Int) (n180 : Int) (b181 : Bool) (b182 : Bool) (b183 : Bool) (b184 : Bool) (v185 : SV) (v186 : SV) (v187 : SV) (v188 : SV) (v189 : SV) (v190 : SV) =>
    some ([.one (.i .i64 (-1 : Int))], []))
   (fun (n191 : Int) (n192 : Int) (b193 : Bool) (b194 : Bool) (b195 : Bool) (b196 : Bool) (b197 : Bool) (v198 : SV) (v199 : SV) (v200 : SV) (v201 : SV) (v202 : SV) =>
    some ([.one (.i .i64 (-1 : Int))], []))
   (fun (n203 : Int) (n204 : Int) (b205 : Bool) (b206 : Bool) (b207 : Bool) (b208 : Bool) (b209 : Bool) (b210 : Bool) (v211 : SV) (v212 : SV) (v213 : SV) (v214 : SV) =>
    some ([.one (.i .i64 (-1 : Int))], []))
   (fun (n215 : Int) (n216 : Int) (b217 : Bool) (b218 : Bool) (b219 : Bool) (b220 : Bool) (b221 : Bool) (b222 : Bool) (b223 : Bool) (v224 : SV) (v225 : SV) (v226 : SV) =>
    some ([.one (.i .i64 (-1 : Int))], []))
   (fun (n227 : Int) (n228 : Int) (b229 : Bool) (b230 : Bool) (b231 : Bool) (b232 : Bool) (b233 : Bool) (b234 : Bool) (b235 : Bool) (b236 : Bool) (v237 : SV) (v238 : SV) =>
    some ([.one (.i .i64 (-1 : Int))], []))
   (fun (n239 : Int) (n240 : Int) (b241 : Bool) (b242 : Bool) (b243 : Bool) (b244 : Bool) (b245 : Bool) (b246 : Bool) (b247 : Bool) (b248 : Bool) (b249 : Bool) (v250 : SV) =>
    some ([.one (.i .i64 (-1 : Int))], []))
   (fun (n251 : Int) (n252 : Int) (b253 : Bool) (b254 : Bool) (b255 : Bool) (b256 : Bool) (b257 : Bool) (b258 : Bool) (b259 : Bool) (b260 : Bool) (b261 : Bool) (b262 : Bool) =>
    some ([.one (.i .i64 (-1 : Int))], []))
   (fun (n263 : Int) (n264 : Int) (b265 : Bool) (v266 : SV) (v267 : SV) (v268 : SV) (v269 : SV) (v270 : SV) (v271 : SV) (v272 : SV) (v273 : SV) (v274 : SV) =>
    some ([.one (.i .i64 n263)], [])) KK n2 (0 : Int) SV.undef SV.undef SV.undef SV.undef SV.undef SV.undef SV.undef SV.undef SV.undef SV.undef
def zr53 : List DV := [.one (.i .i64 0)]
def zo53 : List (List D) := []
def A53 : List TA := [.one (.l), .one (.i .i64)]
def v53 (vs : List Vr) : Rs := t53 (vL vs 0) (vI vs 1)
def g53 (xs : List DV) : Bool × List DV × List (List D) := gOf zr53 zo53 (argsT A53 v53 xs)
/-- laws.FnExactReadFrame -/
def t12 (s1 : ByteArray) : Rs :=
  if decide ((s1.size : Int) > (1048576 : Int)) then
   some ([.one (.b true)], [])
  else
   chk (okR zr50 zo50 (t50 s1)) <|
   chk (okR zr51 zo51 (t51 s1)) <|
   let y1 := asL (resC (t51 s1) 0 0)
   let y2 := asL (resC (t50 s1) 0 0)
   let y3 := t32 y1 y2
   chk (okR zr32 zo32 y3) <|
   let y4 := asB (resC (t50 s1) 1 0)
   if (!(asB (resC y3 0 0))) || (!((asB (resC (t51 s1) 1 0)) == y4)) then
    some ([.one (.b false)], [])
   else
    let y5 := t52 y1 (1 : Int)
    chk (okR zr52 zo52 y5) <|
    let y6 := asL (outC y5 0 0)
    let y7 := t53 y6 (1 : Int)
    chk (okR zr53 zo53 y7) <|
    let y8 := asI (resC y7 0 0)
    if decide (y8 < (0 : Int)) then
     some ([.one (.b false)], [])
    else
     let y9 := asI (resC y5 0 0)
     if y8 != y9 then
      some ([.one (.b false)], [])
     else
      chk (okR zr51 zo51 (t51 s1)) <|
      let y10 := t32 (asL (resC (t51 s1) 0 0)) y2
      chk (okR zr32 zo32 y10) <|
      if (!(asB (resC y10 0 0))) || (!((asB (resC (t51 s1) 1 0)) == y4)) then
       some ([.one (.b false)], [])
      else
       let y11 := t53 y6 (1 : Int)
       chk (okR zr53 zo53 y11) <|
       let y12 := asI (resC y11 0 0)
       if decide (y12 < (0 : Int)) then
        some ([.one (.b false)], [])
       else
        if y12 != y9 then
         some ([.one (.b false)], [])
        else
         some ([.one (.b true)], [])
def zr12 : List DV := [.one (.b false)]
def zo12 : List (List D) := []
def A12 : List TA := [.one (.s)]
def v12 (vs : List Vr) : Rs := t12 (vS vs 0)
def g12 (xs : List DV) : Bool × List DV × List (List D) := gOf zr12 zo12 (argsT A12 v12 xs)
end
end Go.Den.L12
