/- What the functions come to, as plain Lean. Printed by tw.py. -/
import Derived.Test.YtkokejemgekfaaaDm7
set_option linter.unusedVariables false
namespace Go.Den.L10
open Go
noncomputable section
/-- The rounds that a loop is given: 2 ^ 64; so laid that nothing unfolds it. -/
noncomputable def KK : Nat := Classical.choose (⟨2 ^ 64, rfl⟩ : ∃ n : Nat, n = 2 ^ 64)
def w64 (x : Int) : Int := IntKind.wrap .i64 x
def chk (b : Bool) (x : Rs) : Rs := if b then x else none
def bitAnd (k : IntKind) (a b : Int) : Int := k.wrap (BitVec.ofInt k.bits a &&& BitVec.ofInt k.bits b).toNat
def bitOr (k : IntKind) (a b : Int) : Int := k.wrap (BitVec.ofInt k.bits a ||| BitVec.ofInt k.bits b).toNat
def bitXor (k : IntKind) (a b : Int) : Int := k.wrap (BitVec.ofInt k.bits a ^^^ BitVec.ofInt k.bits b).toNat
def stR (xs : List (List D)) (i off : Nat) (ys : List D) : List (List D) := xs.modify i fun r => r.take off ++ ys ++ r.drop (off + ys.length)
def z3 : List D := [.i .i64 0]
/-- laws.szCall -/
def t23 (n1 : Int) (s2 : ByteArray) (s3 : ByteArray) (n4 : Int) (n5 : Int) (s6 : ByteArray) (n7 : Int) : Rs :=
  let y1 := w64 (n7 - (s2.size : Int))
  if decide (y1 < (0 : Int)) then
   some ([.one (.i .i64 (-1 : Int))], [])
  else
   let y2 := w64 (y1 - (s3.size : Int))
   if decide (y2 < (0 : Int)) then
    some ([.one (.i .i64 (-1 : Int))], [])
   else
    let y3 := w64 (y2 - (s6.size : Int))
    if decide (y3 < (0 : Int)) then
     some ([.one (.i .i64 (-1 : Int))], [])
    else
     some ([.one (.i .i64 y3)], [])
def zr23 : List DV := [.one (.i .i64 0)]
def zo23 : List (List D) := []
def A23 : List TA := [.agg [.i .i64, .s, .s, .i .i64, .i .i64, .s], .one (.i .i64)]
def v23 (vs : List Vr) : Rs := t23 (vI vs 0) (vS vs 1) (vS vs 2) (vI vs 3) (vI vs 4) (vS vs 5) (vI vs 6)
def g23 (xs : List DV) : Bool × List DV × List (List D) := gOf zr23 zo23 (argsT A23 v23 xs)
/-- laws.szClient -/
def t19 (n1 : Int) (n2 : Int) (n3 : Int) (b4 : Bool) (n5 : Int) (s6 : ByteArray) (s7 : ByteArray) (n8 : Int) (n9 : Int) (s10 : ByteArray) (n11 : Int) (n12 : Int) : Rs :=
  let y1 := t23 n5 s6 s7 n8 n9 s10 n12
  chk (okR zr23 zo23 y1) <|
  let y2 := asI (resC y1 0 0)
  if decide (y2 < (0 : Int)) then
   some ([.one (.i .i64 (-1 : Int))], [])
  else
   some ([.one (.i .i64 y2)], [])
def zr19 : List DV := [.one (.i .i64 0)]
def zo19 : List (List D) := []
def A19 : List TA := [.agg [.i .i64, .i .i64, .i .i64, .b, .i .i64, .s, .s, .i .i64, .i .i64, .s, .i .i64], .one (.i .i64)]
def v19 (vs : List Vr) : Rs := t19 (vI vs 0) (vI vs 1) (vI vs 2) (vB vs 3) (vI vs 4) (vS vs 5) (vS vs 6) (vI vs 7) (vI vs 8) (vS vs 9) (vI vs 10) (vI vs 11)
def g19 (xs : List DV) : Bool × List DV × List (List D) := gOf zr19 zo19 (argsT A19 v19 xs)
/-- laws.szMail -/
def t43 (n1 : Int) (n2 : Int) (n3 : Int) (b4 : Bool) (n5 : Int) (s6 : ByteArray) (n7 : Int) : Rs :=
  let y1 := w64 (n7 - (s6.size : Int))
  if decide (y1 < (0 : Int)) then
   some ([.one (.i .i64 (-1 : Int))], [])
  else
   some ([.one (.i .i64 y1)], [])
def zr43 : List DV := [.one (.i .i64 0)]
def zo43 : List (List D) := []
def A43 : List TA := [.agg [.i .i64, .i .i64, .i .i64, .b, .i .i64, .s], .one (.i .i64)]
def v43 (vs : List Vr) : Rs := t43 (vI vs 0) (vI vs 1) (vI vs 2) (vB vs 3) (vI vs 4) (vS vs 5) (vI vs 6)
def g43 (xs : List DV) : Bool × List DV × List (List D) := gOf zr43 zo43 (argsT A43 v43 xs)
/-- laws.toCall -/
def t25 (n1 : Int) (s2 : ByteArray) (s3 : ByteArray) (n4 : Int) (n5 : Int) (s6 : ByteArray) : Rs :=
  some ([.agg [.i .i64 n1, .s s2, .s s3, .i .i64 n4, .i .i64 n5, .s s6]], [])
def zr25 : List DV := [.agg [.i .i64 0, .s ⟨#[]⟩, .s ⟨#[]⟩, .i .i64 0, .i .i64 0, .s ⟨#[]⟩]]
def zo25 : List (List D) := []
def A25 : List TA := [.agg [.i .i64, .s, .s, .i .i64, .i .i64, .s]]
def v25 (vs : List Vr) : Rs := t25 (vI vs 0) (vS vs 1) (vS vs 2) (vI vs 3) (vI vs 4) (vS vs 5)
def g25 (xs : List DV) : Bool × List DV × List (List D) := gOf zr25 zo25 (argsT A25 v25 xs)
/-- laws.toClient -/
def t21 (n1 : Int) (n2 : Int) (n3 : Int) (b4 : Bool) (n5 : Int) (s6 : ByteArray) (s7 : ByteArray) (n8 : Int) (n9 : Int) (s10 : ByteArray) (n11 : Int) : Rs :=
  let y1 := t25 n5 s6 s7 n8 n9 s10
  chk (okR zr25 zo25 y1) <|
  some ([.agg [.i .i64 n1, .i .i64 n2, .i .i64 n3, .b b4, .i .i64 (asI (resC y1 0 0)), .s (asS (resC y1 0 1)), .s (asS (resC y1 0 2)), .i .i64 (asI (resC y1 0 3)), .i .i64 (asI (resC y1 0 4)), .s (asS (resC y1 0 5)), .i .i64 n11]], [])
def zr21 : List DV := [.agg [.i .i64 0, .i .i64 0, .i .i64 0, .b false, .i .i64 0, .s ⟨#[]⟩, .s ⟨#[]⟩, .i .i64 0, .i .i64 0, .s ⟨#[]⟩, .i .i64 0]]
def zo21 : List (List D) := []
def A21 : List TA := [.agg [.i .i64, .i .i64, .i .i64, .b, .i .i64, .s, .s, .i .i64, .i .i64, .s, .i .i64]]
def v21 (vs : List Vr) : Rs := t21 (vI vs 0) (vI vs 1) (vI vs 2) (vB vs 3) (vI vs 4) (vS vs 5) (vS vs 6) (vI vs 7) (vI vs 8) (vS vs 9) (vI vs 10)
def g21 (xs : List DV) : Bool × List DV × List (List D) := gOf zr21 zo21 (argsT A21 v21 xs)
/-- laws.toMail -/
def t45 (n1 : Int) (n2 : Int) (n3 : Int) (b4 : Bool) (n5 : Int) (s6 : ByteArray) : Rs :=
  some ([.agg [.i .i64 n1, .i .i64 n2, .i .i64 n3, .b b4, .i .i64 n5, .s s6]], [])
def zr45 : List DV := [.agg [.i .i64 0, .i .i64 0, .i .i64 0, .b false, .i .i64 0, .s ⟨#[]⟩]]
def zo45 : List (List D) := []
def A45 : List TA := [.agg [.i .i64, .i .i64, .i .i64, .b, .i .i64, .s]]
def v45 (vs : List Vr) : Rs := t45 (vI vs 0) (vI vs 1) (vI vs 2) (vB vs 3) (vI vs 4) (vS vs 5)
def g45 (xs : List DV) : Bool × List DV × List (List D) := gOf zr45 zo45 (argsT A45 v45 xs)
/-- spec.l15Tenant -/
def t64 (n1 : Int) : Rs :=
  some ([.one (.b ((decide (n1 ≥ (0 : Int))) && (decide (n1 < (3 : Int)))))], [])
def zr64 : List DV := [.one (.b false)]
def zo64 : List (List D) := []
def A64 : List TA := [.one (.i .i64)]
def v64 (vs : List Vr) : Rs := t64 (vI vs 0)
def g64 (xs : List DV) : Bool × List DV × List (List D) := gOf zr64 zo64 (argsT A64 v64 xs)
/-- spec.l1In -/
def t60 (n1 : Int) (n2 : Int) (n3 : Int) : Rs :=
  some ([.one (.b ((decide (n1 ≥ n2)) && (decide (n1 ≤ n3))))], [])
def zr60 : List DV := [.one (.b false)]
def zo60 : List (List D) := []
def A60 : List TA := [.one (.i .i64), .one (.i .i64), .one (.i .i64)]
def v60 (vs : List Vr) : Rs := t60 (vI vs 0) (vI vs 1) (vI vs 2)
def g60 (xs : List DV) : Bool × List DV × List (List D) := gOf zr60 zo60 (argsT A60 v60 xs)
/-- spec.CallOk -/
def t61 (n1 : Int) (s2 : ByteArray) (s3 : ByteArray) (n4 : Int) (n5 : Int) (s6 : ByteArray) : Rs :=
  let y1 := t60 n1 (1 : Int) (22 : Int)
  chk (okR zr60 zo60 y1) <|
  let y2 := t60 n4 (-1000000 : Int) (1000000 : Int)
  let y3 := (((!(asB (resC y1 0 0))) || (decide ((s2.size : Int) > (60 : Int)))) || (decide ((s3.size : Int) > (60 : Int)))) || (decide ((s6.size : Int) > (64 : Int)))
  chk ((okR zr60 zo60 y2) || !(!y3)) <|
  let y4 := t60 n5 (-1000000 : Int) (1000000 : Int)
  let y5 := y3 || (!(asB (resC y2 0 0)))
  chk ((okR zr60 zo60 y4) || !(!y5)) <|
  if y5 || (!(asB (resC y4 0 0))) then
   some ([.one (.b false)], [])
  else
   if (((!(s3.toList == (⟨#[]⟩ : ByteArray).toList)) && (n1 != (9 : Int))) && (n1 != (10 : Int))) && (n1 != (12 : Int)) then
    some ([.one (.b false)], [])
   else
    some ([.one (.b (((s6.toList == (⟨#[]⟩ : ByteArray).toList) || (n1 == (5 : Int))) || (n1 == (6 : Int))))], [])
def zr61 : List DV := [.one (.b false)]
def zo61 : List (List D) := []
def A61 : List TA := [.agg [.i .i64, .s, .s, .i .i64, .i .i64, .s]]
def v61 (vs : List Vr) : Rs := t61 (vI vs 0) (vS vs 1) (vS vs 2) (vI vs 3) (vI vs 4) (vS vs 5)
def g61 (xs : List DV) : Bool × List DV × List (List D) := gOf zr61 zo61 (argsT A61 v61 xs)
/-- spec.ClientOk -/
def t20 (n1 : Int) (n2 : Int) (n3 : Int) (b4 : Bool) (n5 : Int) (s6 : ByteArray) (s7 : ByteArray) (n8 : Int) (n9 : Int) (s10 : ByteArray) (n11 : Int) : Rs :=
  chk (okR zr64 zo64 (t64 n1)) <|
  let y1 := t60 n2 (1 : Int) (3 : Int)
  let y2 := !(asB (resC (t64 n1) 0 0))
  chk ((okR zr60 zo60 y1) || !(!y2)) <|
  let y3 := t60 n3 (0 : Int) (1000000 : Int)
  let y4 := y2 || (!(asB (resC y1 0 0)))
  chk ((okR zr60 zo60 y3) || !(!y4)) <|
  let y5 := t60 n11 (0 : Int) (1000000 : Int)
  let y6 := y4 || (!(asB (resC y3 0 0)))
  chk ((okR zr60 zo60 y5) || !(!y6)) <|
  if y6 || (!(asB (resC y5 0 0))) then
   some ([.one (.b false)], [])
  else
   if b4 then
    let y7 := t61 n5 s6 s7 n8 n9 s10
    let y8 := decide (n3 ≥ (1 : Int))
    chk ((okR zr61 zo61 y7) || !y8) <|
    some ([.one (.b (y8 && (asB (resC y7 0 0))))], [])
   else
    some ([.one (.b (((n5 == (0 : Int)) && ((s6.toList == (⟨#[]⟩ : ByteArray).toList) && ((s7.toList == (⟨#[]⟩ : ByteArray).toList) && ((n8 == (0 : Int)) && ((n9 == (0 : Int)) && ((s10.toList == (⟨#[]⟩ : ByteArray).toList) && true)))))) && (n11 == (0 : Int))))], [])
def zr20 : List DV := [.one (.b false)]
def zo20 : List (List D) := []
def A20 : List TA := [.agg [.i .i64, .i .i64, .i .i64, .b, .i .i64, .s, .s, .i .i64, .i .i64, .s, .i .i64]]
def v20 (vs : List Vr) : Rs := t20 (vI vs 0) (vI vs 1) (vI vs 2) (vB vs 3) (vI vs 4) (vS vs 5) (vS vs 6) (vI vs 7) (vI vs 8) (vS vs 9) (vI vs 10)
def g20 (xs : List DV) : Bool × List DV × List (List D) := gOf zr20 zo20 (argsT A20 v20 xs)
def l89o1 (s7 : ByteArray) (b8 : Bool) (q1 : Int → Bool → List (List D) → Rs) : Nat → Int → SV → List (List D) → Rs
  | 0, _, _, _ => none
  | m + 1, n6, v9, l10 =>
    let y1 := decide (n6 ≥ (128 : Int))
    if y1 then
     let y2 := ([[.i .u8 (IntKind.wrap .u8 (w64 ((128 : Int) + (n6.tmod (128 : Int)))))]] : List (List D))
     chk ((flatR 1 y2) && decide (l10.length + y2.length ≤ lim)) <|
     l89o1 s7 b8 q1 m (w64 (n6.tdiv (128 : Int))) (.d (.b y1)) (l10 ++ y2)
    else
     q1 n6 y1 l10
/-- spec.Var -/
def t89 (n1 : Int) : Rs :=
  let y1 := t60 n1 (0 : Int) (562949953421311 : Int)
  chk (okR zr60 zo60 y1) <|
  let y2 := !(asB (resC y1 0 0))
  if y2 then
   some ([.one (.s (⟨#[]⟩ : ByteArray))], [])
  else
   l89o1 (⟨#[]⟩ : ByteArray) y2
    (fun (n19 : Int) (b20 : Bool) (l21 : List (List D)) =>
     let y3 := ([[.i .u8 (IntKind.wrap .u8 n19)]] : List (List D))
     chk ((flatR 1 y3) && decide (l21.length + y3.length ≤ lim)) <|
     let y4 := l21 ++ y3
     chk (isBytes y4) <|
     some ([.one (.s ⟨(bytesD y4).toArray⟩)], [])) KK n1 SV.undef ([] : List (List D))
def zr89 : List DV := [.one (.s ⟨#[]⟩)]
def zo89 : List (List D) := []
def A89 : List TA := [.one (.i .i64)]
def v89 (vs : List Vr) : Rs := t89 (vI vs 0)
def g89 (xs : List DV) : Bool × List DV × List (List D) := gOf zr89 zo89 (argsT A89 v89 xs)
def l84o2 (s53 : ByteArray) (n54 : Int) (n55 : Int) (n56 : Int) (b59 : Bool) (q1 : Int → Int → Bool → SV → Rs) : Nat → Int → Int → SV → SV → Rs
  | 0, _, _, _, _ => none
  | m + 1, n57, n58, v60, v61 =>
    let y1 := decide (n58 ≥ (0 : Int))
    if y1 then
     chk (decide (0 ≤ n58 ∧ n58 < s53.size)) <|
     l84o2 s53 n54 n55 n56 b59 q1 m (w64 ((w64 (n57 * (128 : Int))) + ((w64 ((s53.get! n58.toNat).toNat)).tmod (128 : Int)))) (w64 (n58 - (1 : Int))) (.d (.b y1)) (keepV [] v61)
    else
     q1 n57 n58 y1 (keepV [] v61)
def l84o0 (s35 : ByteArray) (n36 : Int) (n37 : Int) (q1 : Int → Int → Int → Bool → Bool → Bool → Rs) (q2 : Int → SV → SV → Bool → SV → SV → Rs) : Nat → Int → SV → SV → SV → SV → SV → Rs
  | 0, _, _, _, _, _, _ => none
  | m + 1, n38, v39, v40, v41, v42, v43 =>
    let y1 := (decide (n38 ≤ (7 : Int))) && (decide (n38 ≤ (s35.size : Int)))
    if y1 then
     l84o2 s35 n36 n37 n38 y1
      (fun (n75 : Int) (n76 : Int) (b77 : Bool) (v78 : SV) =>
       chk (okR zr89 zo89 (t89 n75)) <|
       chk (decide (0 ≤ (0 : Int) ∧ (0 : Int) ≤ n38 ∧ n38 ≤ s35.size)) <|
       let y2 := (asS (resC (t89 n75) 0 0)).toList == (s35.extract (0 : Int).toNat n38.toNat).toList
       if y2 then
        q1 n75 n38 n76 y1 b77 y2
       else
        l84o0 s35 n36 n37 q1 q2 m (w64 (n38 + (1 : Int))) (.d (.i .i64 n75)) (.d (.i .i64 n76)) (.d (.b y1)) (.d (.b b77)) (.d (.b y2))) KK (0 : Int) (w64 (n38 - (1 : Int))) v42 v43
    else
     q2 n38 (keepV [] v39) (keepV [] v40) y1 (keepV [] v42) (keepV [] v43)
/-- spec.ReadVar -/
def t84 (s1 : ByteArray) : Rs :=
  l84o0 s1 (0 : Int) (0 : Int)
   (fun (n100 : Int) (n101 : Int) (n102 : Int) (b103 : Bool) (b104 : Bool) (b105 : Bool) =>
    some ([.one (.i .i64 n100), .one (.i .i64 n101)], []))
   (fun (n106 : Int) (v107 : SV) (v108 : SV) (b109 : Bool) (v110 : SV) (v111 : SV) =>
    some ([.one (.i .i64 (0 : Int)), .one (.i .i64 (0 : Int))], [])) KK (1 : Int) SV.undef SV.undef SV.undef SV.undef SV.undef
def zr84 : List DV := [.one (.i .i64 0), .one (.i .i64 0)]
def zo84 : List (List D) := []
def A84 : List TA := [.one (.s)]
def v84 (vs : List Vr) : Rs := t84 (vS vs 0)
def g84 (xs : List DV) : Bool × List DV × List (List D) := gOf zr84 zo84 (argsT A84 v84 xs)
def l92o0 (s10 : ByteArray) (n12 : Int) (n13 : Int) (q1 : Int → Int → SV → SV → Bool → Bool → SV → List (List D) → Rs) (q2 : Int → Int → Int → Int → Bool → Bool → Bool → List (List D) → Rs) (q3 : Int → Int → SV → SV → Bool → SV → SV → List (List D) → Rs) : Nat → Int → Int → SV → SV → SV → SV → SV → List (List D) → Rs
  | 0, _, _, _, _, _, _, _, _ => none
  | m + 1, n11, n14, v15, v16, v17, v18, v19, l20 =>
    let y1 := decide (n14 < n12)
    if y1 then
     let y2 := (decide (n11 < (0 : Int))) || (decide (n11 > (s10.size : Int)))
     if y2 then
      q1 n11 n14 v15 v16 y1 y2 v19 l20
     else
      chk (decide (0 ≤ n11 ∧ n11 ≤ s10.size)) <|
      let y3 := t84 (s10.extract n11.toNat s10.size)
      chk (okR zr84 zo84 y3) <|
      let y4 := asI (resC y3 1 0)
      let y5 := y4 == (0 : Int)
      if y5 then
       let y6 := asI (resC y3 0 0)
       q2 n11 n14 y6 y4 y1 y2 y5 l20
      else
       let y7 := asI (resC y3 0 0)
       let y8 := ([[.i .i64 y7]] : List (List D))
       chk ((flatR 1 y8) && decide (l20.length + y8.length ≤ lim)) <|
       l92o0 s10 n12 n13 q1 q2 q3 m (w64 (n11 + y4)) (w64 (n14 + (1 : Int))) (.d (.i .i64 y7)) (.d (.i .i64 y4)) (.d (.b y1)) (.d (.b y2)) (.d (.b y5)) (l20 ++ y8)
    else
     q3 n11 n14 (keepV [768] v15) (keepV [768] v16) y1 (keepV [768] v18) (keepV [768] v19) l20
/-- spec.l8Vars -/
def t92 (s1 : ByteArray) (n2 : Int) (n3 : Int) : Rs :=
  l92o0 s1 n3 (0 : Int)
   (fun (n56 : Int) (n57 : Int) (v58 : SV) (v59 : SV) (b60 : Bool) (b61 : Bool) (v62 : SV) (l63 : List (List D)) =>
    some ([.one (.l l63), .one (.i .i64 (-1 : Int))], []))
   (fun (n64 : Int) (n65 : Int) (n66 : Int) (n67 : Int) (b68 : Bool) (b69 : Bool) (b70 : Bool) (l71 : List (List D)) =>
    some ([.one (.l l71), .one (.i .i64 (-1 : Int))], []))
   (fun (n72 : Int) (n73 : Int) (v74 : SV) (v75 : SV) (b76 : Bool) (v77 : SV) (v78 : SV) (l79 : List (List D)) =>
    some ([.one (.l l79), .one (.i .i64 n72)], [])) KK n2 (0 : Int) SV.undef SV.undef SV.undef SV.undef SV.undef ([] : List (List D))
def zr92 : List DV := [.one (.l []), .one (.i .i64 0)]
def zo92 : List (List D) := []
def A92 : List TA := [.one (.s), .one (.i .i64), .one (.i .i64)]
def v92 (vs : List Vr) : Rs := t92 (vS vs 0) (vI vs 1) (vI vs 2)
def g92 (xs : List DV) : Bool × List DV × List (List D) := gOf zr92 zo92 (argsT A92 v92 xs)
/-- spec.ResultOk -/
def t125 (n1 : Int) (s2 : ByteArray) : Rs :=
  let y1 := t60 n1 (0 : Int) (200 : Int)
  chk (okR zr60 zo60 y1) <|
  some ([.one (.b ((asB (resC y1 0 0)) && (decide ((s2.size : Int) ≤ (400 : Int)))))], [])
def zr125 : List DV := [.one (.b false)]
def zo125 : List (List D) := []
def A125 : List TA := [.agg [.i .i64, .s]]
def v125 (vs : List Vr) : Rs := t125 (vI vs 0) (vS vs 1)
def g125 (xs : List DV) : Bool × List DV × List (List D) := gOf zr125 zo125 (argsT A125 v125 xs)
/-- spec.ShowResult -/
def t106 (n1 : Int) (s2 : ByteArray) : Rs :=
  chk (okR zr125 zo125 (t125 n1 s2)) <|
  if !(asB (resC (t125 n1 s2) 0 0)) then
   some ([.one (.s (⟨#[]⟩ : ByteArray))], [])
  else
   chk (okR zr89 zo89 (t89 n1)) <|
   let y1 := asS (resC (t89 n1) 0 0)
   chk (decide (y1.size + s2.size ≤ lim)) <|
   some ([.one (.s (y1 ++ s2))], [])
def zr106 : List DV := [.one (.s ⟨#[]⟩)]
def zo106 : List (List D) := []
def A106 : List TA := [.agg [.i .i64, .s]]
def v106 (vs : List Vr) : Rs := t106 (vI vs 0) (vS vs 1)
def g106 (xs : List DV) : Bool × List DV × List (List D) := gOf zr106 zo106 (argsT A106 v106 xs)
/-- spec.ReadResult -/
def t85 (s1 : ByteArray) : Rs :=
  let y1 := t92 s1 (0 : Int) (1 : Int)
  chk (okR zr92 zo92 y1) <|
  let y2 := asI (resC y1 1 0)
  if decide (y2 < (0 : Int)) then
   some ([.agg [.i .i64 (0 : Int), .s (⟨#[]⟩ : ByteArray)], .one (.b false)], [])
  else
   let y3 := asL (resC y1 0 0)
   chk (decide (0 ≤ (0 : Int)) && decide ((0 : Int) < y3.length)) <|
   let y4 := y3.getD ((0 : Int).toNat) []
   chk (decide (1 ≤ y4.length) && isF z3 0 y4) <|
   chk (decide (0 ≤ y2 ∧ y2 ≤ s1.size)) <|
   let y5 := asI (nthD y4 0)
   let y6 := s1.extract y2.toNat s1.size
   let y7 := t106 y5 y6
   chk (okR zr106 zo106 y7) <|
   if !((asS (resC y7 0 0)).toList == s1.toList) then
    some ([.agg [.i .i64 (0 : Int), .s (⟨#[]⟩ : ByteArray)], .one (.b false)], [])
   else
    some ([.agg [.i .i64 y5, .s y6], .one (.b true)], [])
def zr85 : List DV := [.agg [.i .i64 0, .s ⟨#[]⟩], .one (.b false)]
def zo85 : List (List D) := []
def A85 : List TA := [.one (.s)]
def v85 (vs : List Vr) : Rs := t85 (vS vs 0)
def g85 (xs : List DV) : Bool × List DV × List (List D) := gOf zr85 zo85 (argsT A85 v85 xs)
/-- spec.ClientHear -/
def t44 (n1 : Int) (n2 : Int) (n3 : Int) (b4 : Bool) (n5 : Int) (s6 : ByteArray) (s7 : ByteArray) (n8 : Int) (n9 : Int) (s10 : ByteArray) (n11 : Int) (n12 : Int) (n13 : Int) (n14 : Int) (b15 : Bool) (n16 : Int) (s17 : ByteArray) (n18 : Int) : Rs :=
  let y1 := t20 n1 n2 n3 b4 n5 s6 s7 n8 n9 s10 n11
  chk (okR zr20 zo20 y1) <|
  if !(asB (resC y1 0 0)) then
   some ([.agg [.i .i64 (0 : Int), .i .i64 (0 : Int), .i .i64 (0 : Int), .b false, .i .i64 (0 : Int), .s (⟨#[]⟩ : ByteArray), .s (⟨#[]⟩ : ByteArray), .i .i64 (0 : Int), .i .i64 (0 : Int), .s (⟨#[]⟩ : ByteArray), .i .i64 (0 : Int)], .agg [.i .i64 (0 : Int), .i .i64 (0 : Int), .i .i64 (0 : Int), .i .i64 (0 : Int), .s (⟨#[]⟩ : ByteArray), .s (⟨#[]⟩ : ByteArray), .i .i64 (0 : Int), .i .i64 (0 : Int), .s (⟨#[]⟩ : ByteArray), .i .i64 (0 : Int), .i .i64 (0 : Int), .s (⟨#[]⟩ : ByteArray), .i .i64 (0 : Int), .i .i64 (0 : Int)], .one (.b false)], [])
  else
   chk (okR zr84 zo84 (t84 s17)) <|
   let y2 := asI (resC (t84 s17) 1 0)
   chk (decide (0 ≤ y2 ∧ y2 ≤ s17.size)) <|
   let y3 := t85 (s17.extract y2.toNat s17.size)
   chk (okR zr85 zo85 y3) <|
   let y4 := asI (resC (t84 s17) 0 0)
   let y5 := t60 y4 (1 : Int) (100000 : Int)
   let y6 := ((((((!b4) || (!b15)) || (n12 != n1)) || (n13 != n2)) || (n16 != n3)) || (y2 == (0 : Int))) || (!(asB (resC y3 1 0)))
   chk ((okR zr60 zo60 y5) || !(!y6)) <|
   let y7 := t60 n18 (0 : Int) (1000000 : Int)
   let y8 := y6 || (!(asB (resC y5 0 0)))
   chk ((okR zr60 zo60 y7) || !(!y8)) <|
   if y8 || (!(asB (resC y7 0 0))) then
    some ([.agg [.i .i64 n1, .i .i64 n2, .i .i64 n3, .b b4, .i .i64 n5, .s s6, .s s7, .i .i64 n8, .i .i64 n9, .s s10, .i .i64 n11], .agg [.i .i64 (0 : Int), .i .i64 (0 : Int), .i .i64 (0 : Int), .i .i64 (0 : Int), .s (⟨#[]⟩ : ByteArray), .s (⟨#[]⟩ : ByteArray), .i .i64 (0 : Int), .i .i64 (0 : Int), .s (⟨#[]⟩ : ByteArray), .i .i64 (0 : Int), .i .i64 (0 : Int), .s (⟨#[]⟩ : ByteArray), .i .i64 (0 : Int), .i .i64 (0 : Int)], .one (.b false)], [])
   else
    some ([.agg [.i .i64 n1, .i .i64 n2, .i .i64 n3, .b false, .i .i64 (0 : Int), .s (⟨#[]⟩ : ByteArray), .s (⟨#[]⟩ : ByteArray), .i .i64 (0 : Int), .i .i64 (0 : Int), .s (⟨#[]⟩ : ByteArray), .i .i64 (0 : Int)], .agg [.i .i64 n1, .i .i64 n2, .i .i64 n3, .i .i64 n5, .s s6, .s s7, .i .i64 n8, .i .i64 n9, .s s10, .i .i64 y4, .i .i64 (asI (resC y3 0 0)), .s (asS (resC y3 0 1)), .i .i64 n11, .i .i64 n18], .one (.b true)], [])
def zr44 : List DV := [.agg [.i .i64 0, .i .i64 0, .i .i64 0, .b false, .i .i64 0, .s ⟨#[]⟩, .s ⟨#[]⟩, .i .i64 0, .i .i64 0, .s ⟨#[]⟩, .i .i64 0], .agg [.i .i64 0, .i .i64 0, .i .i64 0, .i .i64 0, .s ⟨#[]⟩, .s ⟨#[]⟩, .i .i64 0, .i .i64 0, .s ⟨#[]⟩, .i .i64 0, .i .i64 0, .s ⟨#[]⟩, .i .i64 0, .i .i64 0], .one (.b false)]
def zo44 : List (List D) := []
def A44 : List TA := [.agg [.i .i64, .i .i64, .i .i64, .b, .i .i64, .s, .s, .i .i64, .i .i64, .s, .i .i64], .agg [.i .i64, .i .i64, .i .i64, .b, .i .i64, .s], .one (.i .i64)]
def v44 (vs : List Vr) : Rs := t44 (vI vs 0) (vI vs 1) (vI vs 2) (vB vs 3) (vI vs 4) (vS vs 5) (vS vs 6) (vI vs 7) (vI vs 8) (vS vs 9) (vI vs 10) (vI vs 11) (vI vs 12) (vI vs 13) (vB vs 14) (vI vs 15) (vS vs 16) (vI vs 17)
def g44 (xs : List DV) : Bool × List DV × List (List D) := gOf zr44 zo44 (argsT A44 v44 xs)
/-- impl.within -/
def t62 (n1 : Int) (n2 : Int) (n3 : Int) : Rs :=
  some ([.one (.b ((decide (n1 ≥ n2)) && (decide (n1 ≤ n3))))], [])
def zr62 : List DV := [.one (.b false)]
def zo62 : List (List D) := []
def A62 : List TA := [.one (.i .i64), .one (.i .i64), .one (.i .i64)]
def v62 (vs : List Vr) : Rs := t62 (vI vs 0) (vI vs 1) (vI vs 2)
def g62 (xs : List DV) : Bool × List DV × List (List D) := gOf zr62 zo62 (argsT A62 v62 xs)
/-- impl.CallOk -/
def t63 (n1 : Int) (s2 : ByteArray) (s3 : ByteArray) (n4 : Int) (n5 : Int) (s6 : ByteArray) : Rs :=
  if ((!(((n1 == (9 : Int)) || (n1 == (10 : Int))) || (n1 == (12 : Int)))) && (!(s3.toList == (⟨#[]⟩ : ByteArray).toList))) || ((!((n1 == (5 : Int)) || (n1 == (6 : Int)))) && (!(s6.toList == (⟨#[]⟩ : ByteArray).toList))) then
   some ([.one (.b false)], [])
  else
   let y1 := t62 n1 (1 : Int) (22 : Int)
   chk (okR zr62 zo62 y1) <|
   let y2 := t62 n4 (-1000000 : Int) (1000000 : Int)
   let y3 := (((asB (resC y1 0 0)) && (decide ((s2.size : Int) ≤ (60 : Int)))) && (decide ((s3.size : Int) ≤ (60 : Int)))) && (decide ((s6.size : Int) ≤ (64 : Int)))
   chk ((okR zr62 zo62 y2) || !y3) <|
   let y4 := t62 n5 (-1000000 : Int) (1000000 : Int)
   let y5 := y3 && (asB (resC y2 0 0))
   chk ((okR zr62 zo62 y4) || !y5) <|
   some ([.one (.b (y5 && (asB (resC y4 0 0))))], [])
def zr63 : List DV := [.one (.b false)]
def zo63 : List (List D) := []
def A63 : List TA := [.agg [.i .i64, .s, .s, .i .i64, .i .i64, .s]]
def v63 (vs : List Vr) : Rs := t63 (vI vs 0) (vS vs 1) (vS vs 2) (vI vs 3) (vI vs 4) (vS vs 5)
def g63 (xs : List DV) : Bool × List DV × List (List D) := gOf zr63 zo63 (argsT A63 v63 xs)
/-- impl.ClientOk -/
def t22 (n1 : Int) (n2 : Int) (n3 : Int) (b4 : Bool) (n5 : Int) (s6 : ByteArray) (s7 : ByteArray) (n8 : Int) (n9 : Int) (s10 : ByteArray) (n11 : Int) : Rs :=
  let y1 := t62 n1 (0 : Int) (2 : Int)
  chk (okR zr62 zo62 y1) <|
  let y2 := t62 n2 (1 : Int) (3 : Int)
  let y3 := !(asB (resC y1 0 0))
  chk ((okR zr62 zo62 y2) || !(!y3)) <|
  let y4 := t62 n3 (0 : Int) (1000000 : Int)
  let y5 := y3 || (!(asB (resC y2 0 0)))
  chk ((okR zr62 zo62 y4) || !(!y5)) <|
  let y6 := t62 n11 (0 : Int) (1000000 : Int)
  let y7 := y5 || (!(asB (resC y4 0 0)))
  chk ((okR zr62 zo62 y6) || !(!y7)) <|
  if y7 || (!(asB (resC y6 0 0))) then
   some ([.one (.b false)], [])
  else
   if b4 then
    let y8 := t63 n5 s6 s7 n8 n9 s10
    let y9 := decide (n3 ≥ (1 : Int))
    chk ((okR zr63 zo63 y8) || !y9) <|
    some ([.one (.b (y9 && (asB (resC y8 0 0))))], [])
   else
    some ([.one (.b (((n5 == (0 : Int)) && ((s6.toList == (⟨#[]⟩ : ByteArray).toList) && ((s7.toList == (⟨#[]⟩ : ByteArray).toList) && ((n8 == (0 : Int)) && ((n9 == (0 : Int)) && ((s10.toList == (⟨#[]⟩ : ByteArray).toList) && true)))))) && (n11 == (0 : Int))))], [])
def zr22 : List DV := [.one (.b false)]
def zo22 : List (List D) := []
def A22 : List TA := [.agg [.i .i64, .i .i64, .i .i64, .b, .i .i64, .s, .s, .i .i64, .i .i64, .s, .i .i64]]
def v22 (vs : List Vr) : Rs := t22 (vI vs 0) (vI vs 1) (vI vs 2) (vB vs 3) (vI vs 4) (vS vs 5) (vS vs 6) (vI vs 7) (vI vs 8) (vS vs 9) (vI vs 10)
def g22 (xs : List DV) : Bool × List DV × List (List D) := gOf zr22 zo22 (argsT A22 v22 xs)
def l86o0 (s7 : ByteArray) (n8 : Int) (n9 : Int) (q1 : Int → Int → Int → Int → Int → Bool → Bool → Bool → Rs) (q2 : Int → Int → SV → Bool → SV → Rs) : Nat → Int → Int → SV → SV → SV → Rs
  | 0, _, _, _, _, _ => none
  | m + 1, n10, n11, v12, v13, v14 =>
    let y1 := (decide (n11 < (s7.size : Int))) && (decide (n11 < (7 : Int)))
    if y1 then
     chk (decide (0 ≤ n11 ∧ n11 < s7.size)) <|
     let y2 := w64 ((7 : Int) * n11)
     chk (decide (0 ≤ y2)) <|
     let y3 := w64 ((s7.get! n11.toNat).toNat)
     let y4 := decide (y3 > (127 : Int))
     if y4 then
      let y5 := bitOr .i64 n10 (w64 ((bitAnd .i64 y3 (127 : Int)) * 2 ^ (min y2.toNat (IntKind.bits .i64))))
      l86o0 s7 n8 n9 q1 q2 m y5 (w64 (n11 + (1 : Int))) (.d (.i .i64 y3)) (.d (.b y1)) (.d (.b y4))
     else
      let y6 := (y3 == (0 : Int)) && (decide (n11 > (0 : Int)))
      if y6 then
       let y7 := bitOr .i64 n10 (w64 ((bitAnd .i64 y3 (127 : Int)) * 2 ^ (min y2.toNat (IntKind.bits .i64))))
       q1 (0 : Int) (0 : Int) y7 n11 y3 y1 y4 y6
      else
       let y8 := bitOr .i64 n10 (w64 ((bitAnd .i64 y3 (127 : Int)) * 2 ^ (min y2.toNat (IntKind.bits .i64))))
       q1 y8 (w64 (n11 + (1 : Int))) y8 n11 y3 y1 y4 y6
    else
     q2 n10 n11 (keepV [] v12) y1 (keepV [] v14)
/-- impl.ReadVar -/
def t86 (s1 : ByteArray) : Rs :=
  l86o0 s1 (0 : Int) (0 : Int)
   (fun (n36 : Int) (n37 : Int) (n38 : Int) (n39 : Int) (n40 : Int) (b41 : Bool) (b42 : Bool) (b43 : Bool) =>
    some ([.one (.i .i64 n36), .one (.i .i64 n37)], []))
   (fun (n44 : Int) (n45 : Int) (v46 : SV) (b47 : Bool) (v48 : SV) =>
    some ([.one (.i .i64 (0 : Int)), .one (.i .i64 (0 : Int))], [])) KK (0 : Int) (0 : Int) SV.undef SV.undef SV.undef
def zr86 : List DV := [.one (.i .i64 0), .one (.i .i64 0)]
def zo86 : List (List D) := []
def A86 : List TA := [.one (.s)]
def v86 (vs : List Vr) : Rs := t86 (vS vs 0)
def g86 (xs : List DV) : Bool × List DV × List (List D) := gOf zr86 zo86 (argsT A86 v86 xs)
/-- impl.ResultOk -/
def t118 (n1 : Int) (s2 : ByteArray) : Rs :=
  let y1 := t62 n1 (0 : Int) (200 : Int)
  chk (okR zr62 zo62 y1) <|
  some ([.one (.b ((asB (resC y1 0 0)) && (decide ((s2.size : Int) ≤ (400 : Int)))))], [])
def zr118 : List DV := [.one (.b false)]
def zo118 : List (List D) := []
def A118 : List TA := [.agg [.i .i64, .s]]
def v118 (vs : List Vr) : Rs := t118 (vI vs 0) (vS vs 1)
def g118 (xs : List DV) : Bool × List DV × List (List D) := gOf zr118 zo118 (argsT A118 v118 xs)
/-- impl.ReadResult -/
def t87 (s1 : ByteArray) : Rs :=
  chk (okR zr86 zo86 (t86 s1)) <|
  let y1 := asI (resC (t86 s1) 1 0)
  chk (decide (0 ≤ y1 ∧ y1 ≤ s1.size)) <|
  let y2 := asI (resC (t86 s1) 0 0)
  let y3 := s1.extract y1.toNat s1.size
  let y4 := t118 y2 y3
  let y5 := y1 == (0 : Int)
  chk ((okR zr118 zo118 y4) || !(!y5)) <|
  if y5 || (!(asB (resC y4 0 0))) then
   some ([.agg [.i .i64 (0 : Int), .s (⟨#[]⟩ : ByteArray)], .one (.b false)], [])
  else
   some ([.agg [.i .i64 y2, .s y3], .one (.b true)], [])
def zr87 : List DV := [.agg [.i .i64 0, .s ⟨#[]⟩], .one (.b false)]
def zo87 : List (List D) := []
def A87 : List TA := [.one (.s)]
def v87 (vs : List Vr) : Rs := t87 (vS vs 0)
def g87 (xs : List DV) : Bool × List DV × List (List D) := gOf zr87 zo87 (argsT A87 v87 xs)
/-- impl.ClientHear -/
def t46 (n1 : Int) (n2 : Int) (n3 : Int) (b4 : Bool) (n5 : Int) (s6 : ByteArray) (s7 : ByteArray) (n8 : Int) (n9 : Int) (s10 : ByteArray) (n11 : Int) (n12 : Int) (n13 : Int) (n14 : Int) (b15 : Bool) (n16 : Int) (s17 : ByteArray) (n18 : Int) : Rs :=
  let y1 := t22 n1 n2 n3 b4 n5 s6 s7 n8 n9 s10 n11
  chk (okR zr22 zo22 y1) <|
  if !(asB (resC y1 0 0)) then
   some ([.agg [.i .i64 (0 : Int), .i .i64 (0 : Int), .i .i64 (0 : Int), .b false, .i .i64 (0 : Int), .s (⟨#[]⟩ : ByteArray), .s (⟨#[]⟩ : ByteArray), .i .i64 (0 : Int), .i .i64 (0 : Int), .s (⟨#[]⟩ : ByteArray), .i .i64 (0 : Int)], .agg [.i .i64 (0 : Int), .i .i64 (0 : Int), .i .i64 (0 : Int), .i .i64 (0 : Int), .s (⟨#[]⟩ : ByteArray), .s (⟨#[]⟩ : ByteArray), .i .i64 (0 : Int), .i .i64 (0 : Int), .s (⟨#[]⟩ : ByteArray), .i .i64 (0 : Int), .i .i64 (0 : Int), .s (⟨#[]⟩ : ByteArray), .i .i64 (0 : Int), .i .i64 (0 : Int)], .one (.b false)], [])
  else
   chk (okR zr86 zo86 (t86 s17)) <|
   let y2 := asI (resC (t86 s17) 1 0)
   chk (decide (0 ≤ y2 ∧ y2 ≤ s17.size)) <|
   let y3 := t87 (s17.extract y2.toNat s17.size)
   chk (okR zr87 zo87 y3) <|
   let y4 := asI (resC (t86 s17) 0 0)
   let y5 := t62 y4 (1 : Int) (100000 : Int)
   let y6 := (((((!b4) || (!b15)) || (n12 != n1)) || (n13 != n2)) || (n16 != n3)) || (y2 == (0 : Int))
   chk ((okR zr62 zo62 y5) || !(!y6)) <|
   let y7 := t62 n18 (0 : Int) (1000000 : Int)
   let y8 := (y6 || (!(asB (resC y5 0 0)))) || (!(asB (resC y3 1 0)))
   chk ((okR zr62 zo62 y7) || !(!y8)) <|
   if y8 || (!(asB (resC y7 0 0))) then
    some ([.agg [.i .i64 n1, .i .i64 n2, .i .i64 n3, .b b4, .i .i64 n5, .s s6, .s s7, .i .i64 n8, .i .i64 n9, .s s10, .i .i64 n11], .agg [.i .i64 (0 : Int), .i .i64 (0 : Int), .i .i64 (0 : Int), .i .i64 (0 : Int), .s (⟨#[]⟩ : ByteArray), .s (⟨#[]⟩ : ByteArray), .i .i64 (0 : Int), .i .i64 (0 : Int), .s (⟨#[]⟩ : ByteArray), .i .i64 (0 : Int), .i .i64 (0 : Int), .s (⟨#[]⟩ : ByteArray), .i .i64 (0 : Int), .i .i64 (0 : Int)], .one (.b false)], [])
   else
    some ([.agg [.i .i64 n1, .i .i64 n2, .i .i64 n3, .b false, .i .i64 (0 : Int), .s (⟨#[]⟩ : ByteArray), .s (⟨#[]⟩ : ByteArray), .i .i64 (0 : Int), .i .i64 (0 : Int), .s (⟨#[]⟩ : ByteArray), .i .i64 (0 : Int)], .agg [.i .i64 n1, .i .i64 n2, .i .i64 n3, .i .i64 n5, .s s6, .s s7, .i .i64 n8, .i .i64 n9, .s s10, .i .i64 y4, .i .i64 (asI (resC y3 0 0)), .s (asS (resC y3 0 1)), .i .i64 n11, .i .i64 n18], .one (.b true)], [])
def zr46 : List DV := [.agg [.i .i64 0, .i .i64 0, .i .i64 0, .b false, .i .i64 0, .s ⟨#[]⟩, .s ⟨#[]⟩, .i .i64 0, .i .i64 0, .s ⟨#[]⟩, .i .i64 0], .agg [.i .i64 0, .i .i64 0, .i .i64 0, .i .i64 0, .s ⟨#[]⟩, .s ⟨#[]⟩, .i .i64 0, .i .i64 0, .s ⟨#[]⟩, .i .i64 0, .i .i64 0, .s ⟨#[]⟩, .i .i64 0, .i .i64 0], .one (.b false)]
def zo46 : List (List D) := []
def A46 : List TA := [.agg [.i .i64, .i .i64, .i .i64, .b, .i .i64, .s, .s, .i .i64, .i .i64, .s, .i .i64], .agg [.i .i64, .i .i64, .i .i64, .b, .i .i64, .s], .one (.i .i64)]
def v46 (vs : List Vr) : Rs := t46 (vI vs 0) (vI vs 1) (vI vs 2) (vB vs 3) (vI vs 4) (vS vs 5) (vS vs 6) (vI vs 7) (vI vs 8) (vS vs 9) (vI vs 10) (vI vs 11) (vI vs 12) (vI vs 13) (vB vs 14) (vI vs 15) (vS vs 16) (vI vs 17)
def g46 (xs : List DV) : Bool × List DV × List (List D) := gOf zr46 zo46 (argsT A46 v46 xs)
/-- laws.eqCall -/
def t65 (n1 : Int) (s2 : ByteArray) (s3 : ByteArray) (n4 : Int) (n5 : Int) (s6 : ByteArray) (n7 : Int) (s8 : ByteArray) (s9 : ByteArray) (n10 : Int) (n11 : Int) (s12 : ByteArray) : Rs :=
  if n1 != n7 then
   some ([.one (.b false)], [])
  else
   if !(s2.toList == s8.toList) then
    some ([.one (.b false)], [])
   else
    if !(s3.toList == s9.toList) then
     some ([.one (.b false)], [])
    else
     if n4 != n10 then
      some ([.one (.b false)], [])
     else
      if n5 != n11 then
       some ([.one (.b false)], [])
      else
       if !(s6.toList == s12.toList) then
        some ([.one (.b false)], [])
       else
        some ([.one (.b true)], [])
def zr65 : List DV := [.one (.b false)]
def zo65 : List (List D) := []
def A65 : List TA := [.agg [.i .i64, .s, .s, .i .i64, .i .i64, .s], .agg [.i .i64, .s, .s, .i .i64, .i .i64, .s]]
def v65 (vs : List Vr) : Rs := t65 (vI vs 0) (vS vs 1) (vS vs 2) (vI vs 3) (vI vs 4) (vS vs 5) (vI vs 6) (vS vs 7) (vS vs 8) (vI vs 9) (vI vs 10) (vS vs 11)
def g65 (xs : List DV) : Bool × List DV × List (List D) := gOf zr65 zo65 (argsT A65 v65 xs)
/-- laws.eqClient -/
def t27 (n1 : Int) (n2 : Int) (n3 : Int) (b4 : Bool) (n5 : Int) (s6 : ByteArray) (s7 : ByteArray) (n8 : Int) (n9 : Int) (s10 : ByteArray) (n11 : Int) (n12 : Int) (n13 : Int) (n14 : Int) (b15 : Bool) (n16 : Int) (s17 : ByteArray) (s18 : ByteArray) (n19 : Int) (n20 : Int) (s21 : ByteArray) (n22 : Int) : Rs :=
  if n1 != n12 then
   some ([.one (.b false)], [])
  else
   if n2 != n13 then
    some ([.one (.b false)], [])
   else
    if n3 != n14 then
     some ([.one (.b false)], [])
    else
     if !(b4 == b15) then
      some ([.one (.b false)], [])
     else
      let y1 := t65 n5 s6 s7 n8 n9 s10 n16 s17 s18 n19 n20 s21
      chk (okR zr65 zo65 y1) <|
      if !(asB (resC y1 0 0)) then
       some ([.one (.b false)], [])
      else
       if n11 != n22 then
        some ([.one (.b false)], [])
       else
        some ([.one (.b true)], [])
def zr27 : List DV := [.one (.b false)]
def zo27 : List (List D) := []
def A27 : List TA := [.agg [.i .i64, .i .i64, .i .i64, .b, .i .i64, .s, .s, .i .i64, .i .i64, .s, .i .i64], .agg [.i .i64, .i .i64, .i .i64, .b, .i .i64, .s, .s, .i .i64, .i .i64, .s, .i .i64]]
def v27 (vs : List Vr) : Rs := t27 (vI vs 0) (vI vs 1) (vI vs 2) (vB vs 3) (vI vs 4) (vS vs 5) (vS vs 6) (vI vs 7) (vI vs 8) (vS vs 9) (vI vs 10) (vI vs 11) (vI vs 12) (vI vs 13) (vB vs 14) (vI vs 15) (vS vs 16) (vS vs 17) (vI vs 18) (vI vs 19) (vS vs 20) (vI vs 21)
def g27 (xs : List DV) : Bool × List DV × List (List D) := gOf zr27 zo27 (argsT A27 v27 xs)
/-- laws.eqResult -/
def t88 (n1 : Int) (s2 : ByteArray) (n3 : Int) (s4 : ByteArray) : Rs :=
  if n1 != n3 then
   some ([.one (.b false)], [])
  else
   if !(s2.toList == s4.toList) then
    some ([.one (.b false)], [])
   else
    some ([.one (.b true)], [])
def zr88 : List DV := [.one (.b false)]
def zo88 : List (List D) := []
def A88 : List TA := [.agg [.i .i64, .s], .agg [.i .i64, .s]]
def v88 (vs : List Vr) : Rs := t88 (vI vs 0) (vS vs 1) (vI vs 2) (vS vs 3)
def g88 (xs : List DV) : Bool × List DV × List (List D) := gOf zr88 zo88 (argsT A88 v88 xs)
/-- laws.eqDone -/
def t47 (n1 : Int) (n2 : Int) (n3 : Int) (n4 : Int) (s5 : ByteArray) (s6 : ByteArray) (n7 : Int) (n8 : Int) (s9 : ByteArray) (n10 : Int) (n11 : Int) (s12 : ByteArray) (n13 : Int) (n14 : Int) (n15 : Int) (n16 : Int) (n17 : Int) (n18 : Int) (s19 : ByteArray) (s20 : ByteArray) (n21 : Int) (n22 : Int) (s23 : ByteArray) (n24 : Int) (n25 : Int) (s26 : ByteArray) (n27 : Int) (n28 : Int) : Rs :=
  if n1 != n15 then
   some ([.one (.b false)], [])
  else
   if n2 != n16 then
    some ([.one (.b false)], [])
   else
    if n3 != n17 then
     some ([.one (.b false)], [])
    else
     let y1 := t65 n4 s5 s6 n7 n8 s9 n18 s19 s20 n21 n22 s23
     chk (okR zr65 zo65 y1) <|
     if !(asB (resC y1 0 0)) then
      some ([.one (.b false)], [])
     else
      if n10 != n24 then
       some ([.one (.b false)], [])
      else
       let y2 := t88 n11 s12 n25 s26
       chk (okR zr88 zo88 y2) <|
       if !(asB (resC y2 0 0)) then
        some ([.one (.b false)], [])
       else
        if n13 != n27 then
         some ([.one (.b false)], [])
        else
         if n14 != n28 then
          some ([.one (.b false)], [])
         else
          some ([.one (.b true)], [])
def zr47 : List DV := [.one (.b false)]
def zo47 : List (List D) := []
def A47 : List TA := [.agg [.i .i64, .i .i64, .i .i64, .i .i64, .s, .s, .i .i64, .i .i64, .s, .i .i64, .i .i64, .s, .i .i64, .i .i64], .agg [.i .i64, .i .i64, .i .i64, .i .i64, .s, .s, .i .i64, .i .i64, .s, .i .i64, .i .i64, .s, .i .i64, .i .i64]]
def v47 (vs : List Vr) : Rs := t47 (vI vs 0) (vI vs 1) (vI vs 2) (vI vs 3) (vS vs 4) (vS vs 5) (vI vs 6) (vI vs 7) (vS vs 8) (vI vs 9) (vI vs 10) (vS vs 11) (vI vs 12) (vI vs 13) (vI vs 14) (vI vs 15) (vI vs 16) (vI vs 17) (vS vs 18) (vS vs 19) (vI vs 20) (vI vs 21) (vS vs 22) (vI vs 23) (vI vs 24) (vS vs 25) (vI vs 26) (vI vs 27)
def g47 (xs : List DV) : Bool × List DV × List (List D) := gOf zr47 zo47 (argsT A47 v47 xs)
/-- laws.FnExactClientHear -/
def t10 (n1 : Int) (n2 : Int) (n3 : Int) (b4 : Bool) (n5 : Int) (s6 : ByteArray) (s7 : ByteArray) (n8 : Int) (n9 : Int) (s10 : ByteArray) (n11 : Int) (n12 : Int) (n13 : Int) (n14 : Int) (b15 : Bool) (n16 : Int) (s17 : ByteArray) (n18 : Int) : Rs :=
  let y1 := t19 n1 n2 n3 b4 n5 s6 s7 n8 n9 s10 n11 (1048576 : Int)
  chk (okR zr19 zo19 y1) <|
  let y2 := asI (resC y1 0 0)
  if decide (y2 < (0 : Int)) then
   some ([.one (.b true)], [])
  else
   let y3 := t43 n12 n13 n14 b15 n16 s17 y2
   chk (okR zr43 zo43 y3) <|
   if decide ((asI (resC y3 0 0)) < (0 : Int)) then
    some ([.one (.b true)], [])
   else
    let y4 := t21 n1 n2 n3 b4 n5 s6 s7 n8 n9 s10 n11
    chk (okR zr21 zo21 y4) <|
    let y5 := t45 n12 n13 n14 b15 n16 s17
    chk (okR zr45 zo45 y5) <|
    let y6 := t44 (asI (resC y4 0 0)) (asI (resC y4 0 1)) (asI (resC y4 0 2)) (asB (resC y4 0 3)) (asI (resC y4 0 4)) (asS (resC y4 0 5)) (asS (resC y4 0 6)) (asI (resC y4 0 7)) (asI (resC y4 0 8)) (asS (resC y4 0 9)) (asI (resC y4 0 10)) (asI (resC y5 0 0)) (asI (resC y5 0 1)) (asI (resC y5 0 2)) (asB (resC y5 0 3)) (asI (resC y5 0 4)) (asS (resC y5 0 5)) n18
    chk (okR zr44 zo44 y6) <|
    let y7 := t21 n1 n2 n3 b4 n5 s6 s7 n8 n9 s10 n11
    chk (okR zr21 zo21 y7) <|
    let y8 := t45 n12 n13 n14 b15 n16 s17
    chk (okR zr45 zo45 y8) <|
    let y9 := t46 (asI (resC y7 0 0)) (asI (resC y7 0 1)) (asI (resC y7 0 2)) (asB (resC y7 0 3)) (asI (resC y7 0 4)) (asS (resC y7 0 5)) (asS (resC y7 0 6)) (asI (resC y7 0 7)) (asI (resC y7 0 8)) (asS (resC y7 0 9)) (asI (resC y7 0 10)) (asI (resC y8 0 0)) (asI (resC y8 0 1)) (asI (resC y8 0 2)) (asB (resC y8 0 3)) (asI (resC y8 0 4)) (asS (resC y8 0 5)) n18
    chk (okR zr46 zo46 y9) <|
    let y10 := t27 (asI (resC y9 0 0)) (asI (resC y9 0 1)) (asI (resC y9 0 2)) (asB (resC y9 0 3)) (asI (resC y9 0 4)) (asS (resC y9 0 5)) (asS (resC y9 0 6)) (asI (resC y9 0 7)) (asI (resC y9 0 8)) (asS (resC y9 0 9)) (asI (resC y9 0 10)) (asI (resC y6 0 0)) (asI (resC y6 0 1)) (asI (resC y6 0 2)) (asB (resC y6 0 3)) (asI (resC y6 0 4)) (asS (resC y6 0 5)) (asS (resC y6 0 6)) (asI (resC y6 0 7)) (asI (resC y6 0 8)) (asS (resC y6 0 9)) (asI (resC y6 0 10))
    chk (okR zr27 zo27 y10) <|
    let y11 := t47 (asI (resC y9 1 0)) (asI (resC y9 1 1)) (asI (resC y9 1 2)) (asI (resC y9 1 3)) (asS (resC y9 1 4)) (asS (resC y9 1 5)) (asI (resC y9 1 6)) (asI (resC y9 1 7)) (asS (resC y9 1 8)) (asI (resC y9 1 9)) (asI (resC y9 1 10)) (asS (resC y9 1 11)) (asI (resC y9 1 12)) (asI (resC y9 1 13)) (asI (resC y6 1 0)) (asI (resC y6 1 1)) (asI (resC y6 1 2)) (asI (resC y6 1 3)) (asS (resC y6 1 4)) (asS (resC y6 1 5)) (asI (resC y6 1 6)) (asI (resC y6 1 7)) (asS (resC y6 1 8)) (asI (resC y6 1 9)) (asI (resC y6 1 10)) (asS (resC y6 1 11)) (asI (resC y6 1 12)) (asI (resC y6 1 13))
    let y12 := !(asB (resC y10 0 0))
    chk ((okR zr47 zo47 y11) || !(!y12)) <|
    if (y12 || (!(asB (resC y11 0 0)))) || (!((asB (resC y9 2 0)) == (asB (resC y6 2 0)))) then
     some ([.one (.b false)], [])
    else
     some ([.one (.b true)], [])
def zr10 : List DV := [.one (.b false)]
def zo10 : List (List D) := []
def A10 : List TA := [.agg [.i .i64, .i .i64, .i .i64, .b, .i .i64, .s, .s, .i .i64, .i .i64, .s, .i .i64], .agg [.i .i64, .i .i64, .i .i64, .b, .i .i64, .s], .one (.i .i64)]
def v10 (vs : List Vr) : Rs := t10 (vI vs 0) (vI vs 1) (vI vs 2) (vB vs 3) (vI vs 4) (vS vs 5) (vS vs 6) (vI vs 7) (vI vs 8) (vS vs 9) (vI vs 10) (vI vs 11) (vI vs 12) (vI vs 13) (vB vs 14) (vI vs 15) (vS vs 16) (vI vs 17)
def g10 (xs : List DV) : Bool × List DV × List (List D) := gOf zr10 zo10 (argsT A10 v10 xs)
end
end Go.Den.L10
