/- What the functions come to, as plain Lean. Printed by tw.py. -/
import Derived.Test.YthnpflcemooaeaaDm8
set_option linter.unusedVariables false
namespace Go.Den.L11
open Go
noncomputable section
/-- The rounds that a loop is given: 2 ^ 64; so laid that nothing unfolds it. -/
noncomputable def KK : Nat := Classical.choose (⟨2 ^ 64, rfl⟩ : ∃ n : Nat, n = 2 ^ 64)
def w64 (x : Int) : Int := IntKind.wrap .i64 x
noncomputable def chk (b : Bool) (x : Rs) : Rs := if b then x else none
def bitAnd (k : IntKind) (a b : Int) : Int := k.wrap (BitVec.ofInt k.bits a &&& BitVec.ofInt k.bits b).toNat
def bitOr (k : IntKind) (a b : Int) : Int := k.wrap (BitVec.ofInt k.bits a ||| BitVec.ofInt k.bits b).toNat
def bitXor (k : IntKind) (a b : Int) : Int := k.wrap (BitVec.ofInt k.bits a ^^^ BitVec.ofInt k.bits b).toNat
def stR (xs : List (List D)) (i off : Nat) (ys : List D) : List (List D) := xs.modify i fun r => r.take off ++ ys ++ r.drop (off + ys.length)
def z3 : List D := [.i .i64 0]
def z4 : List D := [.b false]
def z28 : List D := [.i .i64 0, .l [], .i .i64 0, .l [], .l []]
def z64 : List D := [.i .i64 0, .i .i64 0, .i .i64 0, .i .i64 0, .i .i64 0, .s ⟨#[]⟩, .l [], .i .i64 0, .i .i64 0]
def z81 : List D := [.i .i64 0, .i .i64 0, .i .i64 0, .i .i64 0, .s ⟨#[]⟩]
def z90 : List D := [.i .i64 0, .i .i64 0, .i .i64 0, .i .i64 0, .i .i64 0]
def z129 : List D := [.s ⟨#[]⟩, .i .i64 0]
abbrev Rw := List (List D)
abbrev Y57 := Int → Int → Int → Rs
def t57 (n1 n2 n3 : Int) : Rs :=
  some ([.one (.b ((decide (n1 ≥ n2)) && (decide (n1 ≤ n3))))], [])
def zr57 : List DV := [.one (.b false)]
def zo57 : Rw := []
def A57 : List TA := [.one (.i .i64), .one (.i .i64), .one (.i .i64)]
abbrev Y69 := Int → Rs
def la69o1 (t57 : Y57) (s1 : ByteArray) (b1 : Bool) (q1 : Int → Bool → Rw → Rs) : Nat → Int → SV → Rw → Rs
  | 0, _, _, _ => none
  | m + 1, n1, v1, l1 =>
    let y1 := decide (n1 ≥ (128 : Int))
    if y1 then
     let y2 := ([[.i .u8 (IntKind.wrap .u8 (w64 ((128 : Int) + (n1.tmod (128 : Int)))))]] : Rw)
     chk ((flatR 1 y2) && decide (l1.length + y2.length ≤ lim)) <|
     la69o1 t57 s1 b1 q1 m (w64 (n1.tdiv (128 : Int))) (.d (.b y1)) (l1 ++ y2)
    else
     q1 n1 y1 l1
def ta69 (t57 : Y57) (n1 : Int) : Rs :=
  let y1 := t57 n1 (0 : Int) (562949953421311 : Int)
  chk (okR zr57 zo57 y1) <|
  let y2 := !(asB (resC y1 0 0))
  if y2 then
   some ([.one (.s (⟨#[]⟩ : ByteArray))], [])
  else
   la69o1 t57 (⟨#[]⟩ : ByteArray) y2
    (fun (n2 : Int) (b1 : Bool) (l1 : Rw) =>
     let y3 := ([[.i .u8 (IntKind.wrap .u8 n2)]] : Rw)
     chk ((flatR 1 y3) && decide (l1.length + y3.length ≤ lim)) <|
     let y4 := l1 ++ y3
     chk (isBytes y4) <|
     some ([.one (.s ⟨(bytesD y4).toArray⟩)], [])) KK n1 SV.undef ([] : Rw)
def t69 : Y69 := ta69 t57
def zr69 : List DV := [.one (.s ⟨#[]⟩)]
def zo69 : Rw := []
def A69 : List TA := [.one (.i .i64)]
abbrev Y113 := ByteArray → Rs
def la113o2 (t69 : Y69) (s1 : ByteArray) (n1 n2 n3 : Int) (b1 : Bool) (q1 : Int → Int → Bool → SV → Rs) : Nat → Int → Int → SV → SV → Rs
  | 0, _, _, _, _ => none
  | m + 1, n4, n5, v1, v2 =>
    let y1 := decide (n5 ≥ (0 : Int))
    if y1 then
     chk (decide (0 ≤ n5 ∧ n5 < s1.size)) <|
     la113o2 t69 s1 n1 n2 n3 b1 q1 m (w64 ((w64 (n4 * (128 : Int))) + ((w64 ((s1.get! n5.toNat).toNat)).tmod (128 : Int)))) (w64 (n5 - (1 : Int))) (.d (.b y1)) (keepV [] v2)
    else
     q1 n4 n5 y1 (keepV [] v2)
def la113o0 (t69 : Y69) (s1 : ByteArray) (n1 n2 : Int) (q1 : Int → Int → Int → Bool → Bool → Bool → Rs) (q2 : Int → SV → SV → Bool → SV → SV → Rs) : Nat → Int → SV → SV → SV → SV → SV → Rs
  | 0, _, _, _, _, _, _ => none
  | m + 1, n3, v1, v2, v3, v4, v5 =>
    let y1 := (decide (n3 ≤ (7 : Int))) && (decide (n3 ≤ (s1.size : Int)))
    if y1 then
     la113o2 t69 s1 n1 n2 n3 y1
      (fun (n4 n5 : Int) (b1 : Bool) (v6 : SV) =>
       chk (okR zr69 zo69 (t69 n4)) <|
       chk (decide (0 ≤ (0 : Int) ∧ (0 : Int) ≤ n3 ∧ n3 ≤ s1.size)) <|
       let y2 := (asS (resC (t69 n4) 0 0)).toList == (s1.extract (0 : Int).toNat n3.toNat).toList
       if y2 then
        q1 n4 n3 n5 y1 b1 y2
       else
        la113o0 t69 s1 n1 n2 q1 q2 m (w64 (n3 + (1 : Int))) (.d (.i .i64 n4)) (.d (.i .i64 n5)) (.d (.b y1)) (.d (.b b1)) (.d (.b y2))) KK (0 : Int) (w64 (n3 - (1 : Int))) v4 v5
    else
     q2 n3 (keepV [] v1) (keepV [] v2) y1 (keepV [] v4) (keepV [] v5)
def ta113 (t69 : Y69) (s1 : ByteArray) : Rs :=
  la113o0 t69 s1 (0 : Int) (0 : Int)
   (fun (n1 n2 n3 : Int) (b1 b2 b3 : Bool) =>
    some ([.one (.i .i64 n1), .one (.i .i64 n2)], []))
   (fun (n4 : Int) (v1 v2 : SV) (b4 : Bool) (v3 v4 : SV) =>
    some ([.one (.i .i64 (0 : Int)), .one (.i .i64 (0 : Int))], [])) KK (1 : Int) SV.undef SV.undef SV.undef SV.undef SV.undef
def t113 : Y113 := ta113 t69
def zr113 : List DV := [.one (.i .i64 0), .one (.i .i64 0)]
def zo113 : Rw := []
def A113 : List TA := [.one (.s)]
abbrev Y78 := ByteArray → Int → Int → Rs
def la78o0 (t113 : Y113) (s1 : ByteArray) (n1 n2 : Int) (q1 : Int → Int → SV → SV → Bool → Bool → SV → Rw → Rs) (q2 : Int → Int → Int → Int → Bool → Bool → Bool → Rw → Rs) (q3 : Int → Int → SV → SV → Bool → SV → SV → Rw → Rs) : Nat → Int → Int → SV → SV → SV → SV → SV → Rw → Rs
  | 0, _, _, _, _, _, _, _, _ => none
  | m + 1, n3, n4, v1, v2, v3, v4, v5, l1 =>
    let y1 := decide (n4 < n1)
    if y1 then
     let y2 := (decide (n3 < (0 : Int))) || (decide (n3 > (s1.size : Int)))
     if y2 then
      q1 n3 n4 v1 v2 y1 y2 v5 l1
     else
      chk (decide (0 ≤ n3 ∧ n3 ≤ s1.size)) <|
      let y3 := t113 (s1.extract n3.toNat s1.size)
      chk (okR zr113 zo113 y3) <|
      let y4 := asI (resC y3 1 0)
      let y5 := y4 == (0 : Int)
      if y5 then
       let y6 := asI (resC y3 0 0)
       q2 n3 n4 y6 y4 y1 y2 y5 l1
      else
       let y7 := asI (resC y3 0 0)
       let y8 := ([[.i .i64 y7]] : Rw)
       chk ((flatR 1 y8) && decide (l1.length + y8.length ≤ lim)) <|
       la78o0 t113 s1 n1 n2 q1 q2 q3 m (w64 (n3 + y4)) (w64 (n4 + (1 : Int))) (.d (.i .i64 y7)) (.d (.i .i64 y4)) (.d (.b y1)) (.d (.b y2)) (.d (.b y5)) (l1 ++ y8)
    else
     q3 n3 n4 (keepV [768] v1) (keepV [768] v2) y1 (keepV [768] v4) (keepV [768] v5) l1
def ta78 (t113 : Y113) (s1 : ByteArray) (n1 n2 : Int) : Rs :=
  la78o0 t113 s1 n2 (0 : Int)
   (fun (n3 n4 : Int) (v1 v2 : SV) (b1 b2 : Bool) (v3 : SV) (l1 : Rw) =>
    some ([.one (.l l1), .one (.i .i64 (-1 : Int))], []))
   (fun (n5 n6 n7 n8 : Int) (b3 b4 b5 : Bool) (l2 : Rw) =>
    some ([.one (.l l2), .one (.i .i64 (-1 : Int))], []))
   (fun (n9 n10 : Int) (v4 v5 : SV) (b6 : Bool) (v6 v7 : SV) (l3 : Rw) =>
    some ([.one (.l l3), .one (.i .i64 n9)], [])) KK n1 (0 : Int) SV.undef SV.undef SV.undef SV.undef SV.undef ([] : Rw)
def t78 : Y78 := ta78 t113
def zr78 : List DV := [.one (.l []), .one (.i .i64 0)]
def zo78 : Rw := []
def A78 : List TA := [.one (.s), .one (.i .i64), .one (.i .i64)]
abbrev Y77 := ByteArray → Int → Rs
def ta77 (t78 : Y78) (s1 : ByteArray) (n1 : Int) : Rs :=
  let y1 := t78 s1 n1 (1 : Int)
  chk (okR zr78 zo78 y1) <|
  let y2 := asL (resC y1 0 0)
  let y3 := asI (resC y1 1 0)
  let y4 := decide (y3 < (0 : Int))
  chk ((decide (0 ≤ (0 : Int)) && decide ((0 : Int) < y2.length)) || !(!y4)) <|
  let y5 := y2.getD ((0 : Int).toNat) []
  chk ((decide (1 ≤ y5.length) && isF z3 0 y5) || !(!y4)) <|
  if y4 || (decide ((asI (nthD y5 0)) > (w64 ((s1.size : Int) - y3)))) then
   some ([.one (.s (⟨#[]⟩ : ByteArray)), .one (.i .i64 (-1 : Int))], [])
  else
   chk (decide (0 ≤ (0 : Int)) && decide ((0 : Int) < y2.length)) <|
   let y6 := y2.getD ((0 : Int).toNat) []
   chk (decide (1 ≤ y6.length) && isF z3 0 y6) <|
   let y7 := w64 (y3 + (asI (nthD y6 0)))
   chk (decide (0 ≤ y3 ∧ y3 ≤ y7 ∧ y7 ≤ s1.size)) <|
   chk (decide (0 ≤ (0 : Int)) && decide ((0 : Int) < y2.length)) <|
   let y8 := y2.getD ((0 : Int).toNat) []
   chk (decide (1 ≤ y8.length) && isF z3 0 y8) <|
   some ([.one (.s (s1.extract y3.toNat y7.toNat)), .one (.i .i64 (w64 (y3 + (asI (nthD y8 0)))))], [])
def t77 : Y77 := ta77 t78
def zr77 : List DV := [.one (.s ⟨#[]⟩), .one (.i .i64 0)]
def zo77 : Rw := []
def A77 : List TA := [.one (.s), .one (.i .i64)]
abbrev Y114 := ByteArray → Int → Rs
def la114o3 (t77 : Y77) (t78 : Y78) (s1 : ByteArray) (n1 n2 : Int) (s2 : ByteArray) (b1 b2 b3 : Bool) (n3 n4 n5 n6 n7 : Int) (s3 : ByteArray) (n8 n9 n10 n11 n12 n13 n14 : Int) (s4 : ByteArray) (n15 n16 : Int) (l1 l2 : Rw) (q1 : Int → Int → ByteArray → Int → Bool → Bool → Rw → Rw → Rs) (q2 : Int → Int → SV → SV → Bool → SV → Rw → Rs) : Nat → Int → Int → SV → SV → SV → SV → Rw → Rs
  | 0, _, _, _, _, _, _, _ => none
  | m + 1, n17, n18, v1, v2, v3, v4, l3 =>
    chk (decide (0 ≤ (0 : Int)) && decide ((0 : Int) < l2.length)) <|
    let y1 := l2.getD ((0 : Int).toNat) []
    chk (decide (1 ≤ y1.length) && isF z3 0 y1) <|
    let y2 := decide (n18 < (asI (nthD y1 0)))
    if y2 then
     chk (okR zr77 zo77 (t77 s1 n17)) <|
     let y3 := t78 s1 (asI (resC (t77 s1 n17) 1 0)) (1 : Int)
     chk (okR zr78 zo78 y3) <|
     let y4 := asI (resC y3 1 0)
     let y5 := decide (y4 < (0 : Int))
     if y5 then
      let y6 := asS (resC (t77 s1 n17) 0 0)
      let y7 := asL (resC y3 0 0)
      q1 n17 n18 y6 y4 y2 y5 y7 l3
     else
      let y8 := asL (resC y3 0 0)
      chk (decide (0 ≤ (0 : Int)) && decide ((0 : Int) < y8.length)) <|
      let y9 := y8.getD ((0 : Int).toNat) []
      chk (decide (1 ≤ y9.length) && isF z3 0 y9) <|
      let y10 := asS (resC (t77 s1 n17) 0 0)
      let y11 := ([[.s y10, .i .i64 (asI (nthD y9 0))]] : Rw)
      chk ((flatR 2 y11) && decide (l3.length + y11.length ≤ lim)) <|
      la114o3 t77 t78 s1 n1 n2 s2 b1 b2 b3 n3 n4 n5 n6 n7 s3 n8 n9 n10 n11 n12 n13 n14 s4 n15 n16 l1 l2 q1 q2 m y4 (w64 (n18 + (1 : Int))) (.d (.s y10)) (.d (.i .i64 y4)) (.d (.b y2)) (.d (.b y5)) (l3 ++ y11)
    else
     q2 n17 n18 (keepV [256, 512, 1152, 3840, 32775] v1) (keepV [256, 512, 1152, 3840, 32775] v2) y2 (keepV [256, 512, 1152, 3840, 32775] v4) l3
def ta114 (t77 : Y77) (t78 : Y78) (s1 : ByteArray) (n1 : Int) : Rs :=
  let y1 := t78 s1 n1 (7 : Int)
  chk (okR zr78 zo78 y1) <|
  let y2 := asI (resC y1 1 0)
  let y3 := decide (y2 < (0 : Int))
  if y3 then
   some ([.agg [.i .i64 (0 : Int), .i .i64 (0 : Int), .i .i64 (0 : Int), .i .i64 (0 : Int), .i .i64 (0 : Int), .s (⟨#[]⟩ : ByteArray), .l ([] : Rw), .i .i64 (0 : Int), .i .i64 (0 : Int)], .one (.i .i64 (-1 : Int))], [])
  else
   let y4 := asL (resC y1 0 0)
   chk (decide (0 ≤ (0 : Int)) && decide ((0 : Int) < y4.length)) <|
   let y5 := y4.getD ((0 : Int).toNat) []
   chk (decide (1 ≤ y5.length) && isF z3 0 y5) <|
   chk (decide (0 ≤ (1 : Int)) && decide ((1 : Int) < y4.length)) <|
   let y6 := y4.getD ((1 : Int).toNat) []
   chk (decide (1 ≤ y6.length) && isF z3 0 y6) <|
   chk (decide (0 ≤ (2 : Int)) && decide ((2 : Int) < y4.length)) <|
   let y7 := y4.getD ((2 : Int).toNat) []
   chk (decide (1 ≤ y7.length) && isF z3 0 y7) <|
   chk (decide (0 ≤ (3 : Int)) && decide ((3 : Int) < y4.length)) <|
   let y8 := y4.getD ((3 : Int).toNat) []
   chk (decide (1 ≤ y8.length) && isF z3 0 y8) <|
   chk (decide (0 ≤ (4 : Int)) && decide ((4 : Int) < y4.length)) <|
   let y9 := y4.getD ((4 : Int).toNat) []
   chk (decide (1 ≤ y9.length) && isF z3 0 y9) <|
   chk (decide (0 ≤ (5 : Int)) && decide ((5 : Int) < y4.length)) <|
   let y10 := y4.getD ((5 : Int).toNat) []
   chk (decide (1 ≤ y10.length) && isF z3 0 y10) <|
   chk (decide (0 ≤ (6 : Int)) && decide ((6 : Int) < y4.length)) <|
   let y11 := y4.getD ((6 : Int).toNat) []
   chk (decide (1 ≤ y11.length) && isF z3 0 y11) <|
   let y12 := t77 s1 y2
   chk (okR zr77 zo77 y12) <|
   let y13 := asI (resC y12 1 0)
   let y14 := decide (y13 < (0 : Int))
   if y14 then
    let y15 := asI (nthD y5 0)
    let y16 := asI (nthD y6 0)
    let y17 := asI (nthD y7 0)
    let y18 := asI (nthD y8 0)
    let y19 := asI (nthD y9 0)
    let y20 := asI (nthD y10 0)
    let y21 := asI (nthD y11 0)
    some ([.agg [.i .i64 y15, .i .i64 y16, .i .i64 y17, .i .i64 y18, .i .i64 y19, .s (⟨#[]⟩ : ByteArray), .l ([] : Rw), .i .i64 y20, .i .i64 y21], .one (.i .i64 (-1 : Int))], [])
   else
    let y22 := t78 s1 y13 (1 : Int)
    chk (okR zr78 zo78 y22) <|
    let y23 := asL (resC y22 0 0)
    let y24 := asI (resC y22 1 0)
    let y25 := decide (y24 < (0 : Int))
    chk ((decide (0 ≤ (0 : Int)) && decide ((0 : Int) < y23.length)) || !(!y25)) <|
    let y26 := y23.getD ((0 : Int).toNat) []
    chk ((decide (1 ≤ y26.length) && isF z3 0 y26) || !(!y25)) <|
    let y27 := y25 || (decide ((asI (nthD y26 0)) > (12 : Int)))
    if y27 then
     let y28 := asI (nthD y5 0)
     let y29 := asI (nthD y6 0)
     let y30 := asI (nthD y7 0)
     let y31 := asI (nthD y8 0)
     let y32 := asI (nthD y9 0)
     let y33 := asS (resC y12 0 0)
     let y34 := asI (nthD y10 0)
     let y35 := asI (nthD y11 0)
     some ([.agg [.i .i64 y28, .i .i64 y29, .i .i64 y30, .i .i64 y31, .i .i64 y32, .s y33, .l ([] : Rw), .i .i64 y34, .i .i64 y35], .one (.i .i64 (-1 : Int))], [])
    else
     let y36 := asS (resC y12 0 0)
     let y37 := asI (nthD y5 0)
     let y38 := asI (nthD y6 0)
     let y39 := asI (nthD y7 0)
     let y40 := asI (nthD y8 0)
     let y41 := asI (nthD y9 0)
     let y42 := asI (nthD y10 0)
     let y43 := asI (nthD y11 0)
     la114o3 t77 t78 s1 n1 (0 : Int) y36 y3 y14 y27 (0 : Int) (0 : Int) (0 : Int) (0 : Int) (0 : Int) (⟨#[]⟩ : ByteArray) (0 : Int) (0 : Int) y37 y38 y39 y40 y41 y36 y42 y43 y4 y23
      (fun (n2 n3 : Int) (s2 : ByteArray) (n4 : Int) (b1 b2 : Bool) (l1 l2 : Rw) =>
       some ([.agg [.i .i64 y37, .i .i64 y38, .i .i64 y39, .i .i64 y40, .i .i64 y41, .s y36, .l l2, .i .i64 y42, .i .i64 y43], .one (.i .i64 (-1 : Int))], []))
      (fun (n5 n6 : Int) (v1 v2 : SV) (b3 : Bool) (v3 : SV) (l3 : Rw) =>
       some ([.agg [.i .i64 y37, .i .i64 y38, .i .i64 y39, .i .i64 y40, .i .i64 y41, .s y36, .l l3, .i .i64 y42, .i .i64 y43], .one (.i .i64 n5)], [])) KK y24 (0 : Int) SV.undef SV.undef SV.undef SV.undef ([] : Rw)
def t114 : Y114 := ta114 t77 t78
def zr114 : List DV := [.agg [.i .i64 0, .i .i64 0, .i .i64 0, .i .i64 0, .i .i64 0, .s ⟨#[]⟩, .l [], .i .i64 0, .i .i64 0], .one (.i .i64 0)]
def zo114 : Rw := []
def A114 : List TA := [.one (.s), .one (.i .i64)]
abbrev Y139 := Int → Rs
def t139 (n1 : Int) : Rs :=
  some ([.one (.b ((((((decide (n1 ≥ (97 : Int))) && (decide (n1 ≤ (122 : Int)))) || ((decide (n1 ≥ (48 : Int))) && (decide (n1 ≤ (57 : Int))))) || (n1 == (46 : Int))) || (n1 == (95 : Int))) || (n1 == (45 : Int))))], [])
def zr139 : List DV := [.one (.b false)]
def zo139 : Rw := []
def A139 : List TA := [.one (.i .u8)]
abbrev Y124 := ByteArray → Rs
def la124o1 (t57 : Y57) (t139 : Y139) (s1 : ByteArray) (b1 b2 : Bool) (q1 : Int → Bool → Bool → Rs) (q2 : Int → Bool → SV → Rs) : Nat → Int → SV → SV → Rs
  | 0, _, _, _ => none
  | m + 1, n1, v1, v2 =>
    let y1 := decide (n1 < (s1.size : Int))
    if y1 then
     chk (decide (0 ≤ n1 ∧ n1 < s1.size)) <|
     let y2 := ((s1.get! n1.toNat).toNat) != (47 : Int)
     chk ((decide (0 ≤ n1 ∧ n1 < s1.size)) || !y2) <|
     let y3 := t139 ((s1.get! n1.toNat).toNat)
     chk ((okR zr139 zo139 y3) || !y2) <|
     let y4 := y2 && (!(asB (resC y3 0 0)))
     if y4 then
      q1 n1 y1 y4
     else
      la124o1 t57 t139 s1 b1 b2 q1 q2 m (w64 (n1 + (1 : Int))) (.d (.b y1)) (.d (.b y4))
    else
     q2 n1 y1 (keepV [] v2)
def ta124 (t57 : Y57) (t139 : Y139) (s1 : ByteArray) : Rs :=
  let y1 := t57 (s1.size : Int) (1 : Int) (60 : Int)
  chk (okR zr57 zo57 y1) <|
  let y2 := !(asB (resC y1 0 0))
  if y2 then
   some ([.one (.b false)], [])
  else
   la124o1 t57 t139 s1 false y2
    (fun (n1 : Int) (b1 b2 : Bool) =>
     some ([.one (.b false)], []))
    (fun (n2 : Int) (b3 : Bool) (v1 : SV) =>
     some ([.one (.b true)], [])) KK (0 : Int) SV.undef SV.undef
def t124 : Y124 := ta124 t57 t139
def zr124 : List DV := [.one (.b false)]
def zo124 : Rw := []
def A124 : List TA := [.one (.s)]
abbrev Y125 := ByteArray → Rs
def la125o1 (t57 : Y57) (t139 : Y139) (s1 : ByteArray) (b1 b2 : Bool) (q1 : Int → Bool → Bool → Rs) (q2 : Int → Bool → SV → Rs) : Nat → Int → SV → SV → Rs
  | 0, _, _, _ => none
  | m + 1, n1, v1, v2 =>
    let y1 := decide (n1 < (s1.size : Int))
    if y1 then
     chk (decide (0 ≤ n1 ∧ n1 < s1.size)) <|
     let y2 := t139 ((s1.get! n1.toNat).toNat)
     chk (okR zr139 zo139 y2) <|
     let y3 := !(asB (resC y2 0 0))
     if y3 then
      q1 n1 y1 y3
     else
      la125o1 t57 t139 s1 b1 b2 q1 q2 m (w64 (n1 + (1 : Int))) (.d (.b y1)) (.d (.b y3))
    else
     q2 n1 y1 (keepV [] v2)
def ta125 (t57 : Y57) (t139 : Y139) (s1 : ByteArray) : Rs :=
  let y1 := t57 (s1.size : Int) (1 : Int) (8 : Int)
  chk (okR zr57 zo57 y1) <|
  let y2 := ((!(asB (resC y1 0 0))) || (s1.toList == (⟨#[46]⟩ : ByteArray).toList)) || (s1.toList == (⟨#[46, 46]⟩ : ByteArray).toList)
  if y2 then
   some ([.one (.b false)], [])
  else
   la125o1 t57 t139 s1 false y2
    (fun (n1 : Int) (b1 b2 : Bool) =>
     some ([.one (.b false)], []))
    (fun (n2 : Int) (b3 : Bool) (v1 : SV) =>
     some ([.one (.b true)], [])) KK (0 : Int) SV.undef SV.undef
def t125 : Y125 := ta125 t57 t139
def zr125 : List DV := [.one (.b false)]
def zo125 : Rw := []
def A125 : List TA := [.one (.s)]
abbrev Y126 := Int → Rw → Int → Rs
def l126o0 (n1 : Int) (l1 : Rw) (n2 n3 n4 : Int) (l2 : Rw) (q1 : Int → Bool → Bool → Rs) (q2 : Int → Bool → SV → Rs) : Nat → Int → SV → SV → Rs
  | 0, _, _, _ => none
  | m + 1, n5, v1, v2 =>
    let y1 := decide (n5 < (l2.length : Int))
    if y1 then
     let y2 := l2.getD n5.toNat []
     chk (decide (0 ≤ n5) && decide (n5 < l2.length) && isRow z64 y2) <|
     let y3 := (asI (nthD y2 0)) == n2
     if y3 then
      q1 n5 y1 y3
     else
      l126o0 n1 l1 n2 n3 n4 l2 q1 q2 m (w64 (n5 + (1 : Int))) (.d (.b y1)) (.d (.b y3))
    else
     q2 n5 y1 (keepV [128] v2)
def t126 (n1 : Int) (l1 : Rw) (n2 : Int) : Rs :=
  l126o0 n1 l1 n2 (0 : Int) n1 l1
   (fun (n3 : Int) (b1 b2 : Bool) =>
    some ([.one (.i .i64 n3)], []))
   (fun (n4 : Int) (b3 : Bool) (v1 : SV) =>
    some ([.one (.i .i64 (-1 : Int))], [])) KK (0 : Int) SV.undef SV.undef
def zr126 : List DV := [.one (.i .i64 0)]
def zo126 : Rw := []
def A126 : List TA := [.agg [.i .i64, .l], .one (.i .i64)]
abbrev Y91 := Int → Rw → Int → Int → Int → Int → Int → ByteArray → Rw → Int → Int → Rs
def la91o5 (t57 : Y57) (t124 : Y124) (t125 : Y125) (t126 : Y126) (n1 : Int) (l1 : Rw) (n2 n3 n4 n5 n6 : Int) (s1 : ByteArray) (l2 : Rw) (n7 n8 : Int) (b1 b2 b3 : Bool) (n9 : Int) (b4 b5 b6 b7 : Bool) (n10 : Int) (l3 : Rw) (n11 n12 n13 n14 n15 : Int) (s2 : ByteArray) (l4 : Rw) (n16 n17 : Int) (q1 : Int → Bool → Bool → ByteArray → Int → Rs) (q2 : Int → Bool → SV → Rs) : Nat → Int → SV → SV → Rs
  | 0, _, _, _ => none
  | m + 1, n18, v1, v2 =>
    let y1 := decide (n18 < (l4.length : Int))
    if y1 then
     let y2 := l4.getD n18.toNat []
     chk (decide (0 ≤ n18) && decide (n18 < l4.length) && isRow z129 y2) <|
     let y3 := asS (nthD y2 0)
     let y4 := t125 y3
     chk (okR zr125 zo125 y4) <|
     let y5 := w64 (n18 - (1 : Int))
     let y6 := l4.getD y5.toNat []
     let y7 := !(asB (resC y4 0 0))
     let y8 := decide (n18 > (0 : Int))
     chk ((decide (0 ≤ y5) && decide (y5 < l4.length) && isRow z129 y6) || !((!y7) && y8)) <|
     let y9 := asI (nthD y2 1)
     let y10 := t126 n10 l3 y9
     let y11 := (y7 || (y8 && (!(Op.bytesLess (asS (nthD y6 0)).toList y3.toList)))) || (y9 == (1 : Int))
     chk ((okR zr126 zo126 y10) || !(!y11)) <|
     let y12 := y11 || (decide ((asI (resC y10 0 0)) < (0 : Int)))
     if y12 then
      q1 n18 y1 y12 y3 y9
     else
      la91o5 t57 t124 t125 t126 n1 l1 n2 n3 n4 n5 n6 s1 l2 n7 n8 b1 b2 b3 n9 b4 b5 b6 b7 n10 l3 n11 n12 n13 n14 n15 s2 l4 n16 n17 q1 q2 m (w64 (n18 + (1 : Int))) (.d (.b y1)) (.d (.b y12))
    else
     q2 n18 y1 (keepV [128, 192] v2)
def ta91 (t57 : Y57) (t124 : Y124) (t125 : Y125) (t126 : Y126) (n1 : Int) (l1 : Rw) (n2 n3 n4 n5 n6 : Int) (s1 : ByteArray) (l2 : Rw) (n7 n8 : Int) : Rs :=
  let y1 := t57 n4 (0 : Int) (2047 : Int)
  chk (okR zr57 zo57 y1) <|
  let y2 := t57 n5 (0 : Int) (1000 : Int)
  let y3 := !(asB (resC y1 0 0))
  chk ((okR zr57 zo57 y2) || !(!y3)) <|
  let y4 := t57 n6 (0 : Int) (1000 : Int)
  let y5 := y3 || (!(asB (resC y2 0 0)))
  chk ((okR zr57 zo57 y4) || !(!y5)) <|
  let y6 := y5 || (!(asB (resC y4 0 0)))
  if y6 then
   some ([.one (.b false)], [])
  else
   let y7 := n3 == (1 : Int)
   if y7 then
    let y8 := (((l2.length : Int) == (0 : Int)) && (n7 == (0 : Int))) && (n8 == (0 : Int))
    some ([.one (.b (y8 && (decide ((s1.size : Int) ≤ (64 : Int)))))], [])
   else
    let y9 := n3 == (3 : Int)
    if y9 then
     let y10 := (((l2.length : Int) == (0 : Int)) && (n7 == (0 : Int))) && (n8 == (0 : Int))
     chk ((okR zr124 zo124 (t124 s1)) || !y10) <|
     some ([.one (.b ((y10 && (asB (resC (t124 s1) 0 0))) && (n4 == (511 : Int))))], [])
    else
     let y11 := n3 == (2 : Int)
     if y11 then
      let y12 := t57 n7 (0 : Int) (400 : Int)
      let y13 := (!(s1.toList == (⟨#[]⟩ : ByteArray).toList)) || (decide ((l2.length : Int) > (12 : Int)))
      chk ((okR zr57 zo57 y12) || !(!y13)) <|
      let y14 := t57 n8 (0 : Int) (24 : Int)
      let y15 := y13 || (!(asB (resC y12 0 0)))
      chk ((okR zr57 zo57 y14) || !(!y15)) <|
      let y16 := y15 || (!(asB (resC y14 0 0)))
      if y16 then
       some ([.one (.b false)], [])
      else
       let y17 := (((l2.length : Int) == (0 : Int)) && (n7 == (0 : Int))) && (n8 == (0 : Int))
       la91o5 t57 t124 t125 t126 n1 l1 n2 n3 n4 n5 n6 s1 l2 n7 n8 false y17 y6 n3 y7 y9 y11 y16 n1 l1 n2 n3 n4 n5 n6 s1 l2 n7 n8
        (fun (n9 : Int) (b1 b2 : Bool) (s2 : ByteArray) (n10 : Int) =>
         some ([.one (.b false)], []))
        (fun (n11 : Int) (b3 : Bool) (v1 : SV) =>
         some ([.one (.b true)], [])) KK (0 : Int) SV.undef SV.undef
     else
      some ([.one (.b false)], [])
def t91 : Y91 := ta91 t57 t124 t125 t126
def zr91 : List DV := [.one (.b false)]
def zo91 : Rw := []
def A91 : List TA := [.agg [.i .i64, .l], .agg [.i .i64, .i .i64, .i .i64, .i .i64, .i .i64, .s, .l, .i .i64, .i .i64]]
abbrev Y92 := Int → Rw → Int → Rs
def la92o6 (t126 : Y126) (n1 : Int) (l1 : Rw) (n2 n3 n4 n5 : Int) (b1 b2 b3 b4 : Bool) (n6 : Int) (l2 : Rw) (q1 : Int → SV → Bool → SV → Rw → Rw → Rs) : Nat → Int → SV → SV → SV → Rw → Rw → Rs
  | 0, _, _, _, _, _, _ => none
  | m + 1, n7, v1, v2, v3, l3, l4 =>
    let y1 := l2.getD n5.toNat []
    chk (decide (0 ≤ n5) && decide (n5 < l2.length) && isRow z64 y1) <|
    let y2 := decide (n7 < ((asL (nthD y1 6)).length : Int))
    if y2 then
     let y3 := l2.getD n5.toNat []
     chk (decide (0 ≤ n5) && decide (n5 < l2.length) && isRow z64 y3) <|
     let y4 := asL (nthD y3 6)
     let y5 := y4.getD n7.toNat []
     chk (decide (0 ≤ n7) && decide (n7 < y4.length) && isRow z129 y5) <|
     let y6 := t126 n6 l2 (asI (nthD y5 1))
     chk (okR zr126 zo126 y6) <|
     let k1 := fun (l5 l6 : Rw) =>
      let y7 := asI (resC y6 0 0)
      let y8 := decide (y7 ≥ (0 : Int))
      la92o6 t126 n1 l1 n2 n3 n4 n5 b1 b2 b3 b4 n6 l2 q1 m (w64 (n7 + (1 : Int))) (.d (.i .i64 y7)) (.d (.b y2)) (.d (.b y8)) l5 l6
     let y9 := asI (resC y6 0 0)
     let y10 := decide (y9 ≥ (0 : Int))
     if y10 then
      chk (decide (0 ≤ y9) && decide (y9 < l3.length)) <|
      let y11 := y9.toNat
      chk (decide (1 ≤ 1 ∧ y11 < l3.length)) <|
      chk (decide (0 ≤ y9) && decide (y9 < l4.length)) <|
      let y12 := y9.toNat
      chk (decide (1 ≤ 1 ∧ y12 < l4.length)) <|
      k1 (stR l3 y11 0 [.b true]) (stR l4 y12 0 [.b true])
     else
      k1 l3 l4
    else
     q1 n7 (keepV [128, 960, 1216] v1) y2 (keepV [128, 960, 1216] v3) l3 l4
def la92o3 (t126 : Y126) (n1 : Int) (l1 : Rw) (n2 n3 n4 : Int) (b1 b2 : Bool) (n5 : Int) (l2 : Rw) (q1 : Int → SV → SV → Bool → SV → SV → SV → Rw → Rw → Rs) : Nat → Int → SV → SV → SV → SV → SV → SV → Rw → Rw → Rs
  | 0, _, _, _, _, _, _, _, _, _ => none
  | m + 1, n6, v1, v2, v3, v4, v5, v6, l3, l4 =>
    let y1 := decide (n6 < (l2.length : Int))
    if y1 then
     chk (decide (0 ≤ n6) && decide (n6 < l4.length)) <|
     let y2 := l4.getD (n6.toNat) []
     chk (decide (1 ≤ y2.length) && isF z4 0 y2) <|
     let y3 := !(asB (nthD y2 0))
     if y3 then
      la92o3 t126 n1 l1 n2 n3 n4 b1 b2 n5 l2 q1 m (w64 (n6 + (1 : Int))) (keepV [128, 960, 1216] v1) (keepV [128, 960, 1216] v2) (.d (.b y1)) (.d (.b y3)) (keepV [128, 960, 1216] v5) (keepV [128, 960, 1216] v6) l3 l4
     else
      la92o6 t126 n1 l1 n2 n3 n4 n6 b1 b2 y1 y3 n5 l2
       (fun (n7 : Int) (v7 : SV) (b3 : Bool) (v8 : SV) (l5 l6 : Rw) =>
        la92o3 t126 n1 l1 n2 n3 n4 b1 b2 n5 l2 q1 m (w64 (n6 + (1 : Int))) (.d (.i .i64 n7)) (keepV [128, 960, 1216] v7) (.d (.b y1)) (.d (.b y3)) (.d (.b b3)) (keepV [128, 960, 1216] v8) l5 l6) KK (0 : Int) v2 v5 v6 l3 l4
    else
     q1 n6 (keepV [128, 960, 1216] v1) (keepV [128, 960, 1216] v2) y1 (keepV [128, 960, 1216] v4) (keepV [128, 960, 1216] v5) (keepV [128, 960, 1216] v6) l3 l4
def la92o1 (t126 : Y126) (n1 : Int) (l1 : Rw) (n2 n3 : Int) (b1 : Bool) (n4 : Int) (l2 : Rw) (q1 : Int → SV → SV → SV → Bool → SV → SV → SV → SV → Rw → Rw → Rs) : Nat → Int → SV → SV → SV → SV → SV → SV → SV → SV → Rw → Rw → Rs
  | 0, _, _, _, _, _, _, _, _, _, _, _ => none
  | m + 1, n5, v1, v2, v3, v4, v5, v6, v7, v8, l3, l4 =>
    let y1 := decide (n5 < (l2.length : Int))
    if y1 then
     la92o3 t126 n1 l1 n2 n3 n5 b1 y1 n4 l2
      (fun (n6 : Int) (v9 v10 : SV) (b2 : Bool) (v11 v12 v13 : SV) (l5 l6 : Rw) =>
       la92o1 t126 n1 l1 n2 n3 b1 n4 l2 q1 m (w64 (n5 + (1 : Int))) (.d (.i .i64 n6)) (keepV [128, 960, 1216] v9) (keepV [128, 960, 1216] v10) (.d (.b y1)) (.d (.b b2)) (keepV [128, 960, 1216] v11) (keepV [128, 960, 1216] v12) (keepV [128, 960, 1216] v13) l5 l6) KK (0 : Int) v2 v3 v5 v6 v7 v8 l3 l4
    else
     q1 n5 (keepV [128, 960, 1216] v1) (keepV [128, 960, 1216] v2) (keepV [128, 960, 1216] v3) y1 (keepV [128, 960, 1216] v5) (keepV [128, 960, 1216] v6) (keepV [128, 960, 1216] v7) (keepV [128, 960, 1216] v8) l3 l4
def ta92 (t126 : Y126) (n1 : Int) (l1 : Rw) (n2 : Int) : Rs :=
  let y1 := (l1.length : Int)
  chk (decide (0 ≤ y1 ∧ y1 ≤ lim ∧ y1 = y1)) <|
  let y2 := (l1.length : Int)
  chk (decide (0 ≤ y2 ∧ y2 ≤ lim ∧ y2 = y2)) <|
  let y3 := t126 n1 l1 n2
  chk (okR zr126 zo126 y3) <|
  let y4 := asI (resC y3 0 0)
  let y5 := decide (y4 < (0 : Int))
  if y5 then
   let y6 := List.replicate y1.toNat z4
   some ([.one (.l y6)], [])
  else
   let y7 := List.replicate y2.toNat z4
   chk (decide (0 ≤ y4) && decide (y4 < y7.length)) <|
   let y8 := y4.toNat
   chk (decide (1 ≤ 1 ∧ y8 < y7.length)) <|
   let y9 := List.replicate y1.toNat z4
   la92o1 t126 n1 l1 n2 y4 y5 n1 l1
    (fun (n3 : Int) (v1 v2 v3 : SV) (b1 : Bool) (v4 v5 v6 v7 : SV) (l2 l3 : Rw) =>
     some ([.one (.l l2)], [])) KK (0 : Int) SV.undef SV.undef SV.undef SV.undef SV.undef SV.undef SV.undef SV.undef y9 (stR y7 y8 0 [.b true])
def t92 : Y92 := ta92 t126
def zr92 : List DV := [.one (.l [])]
def zo92 : Rw := []
def A92 : List TA := [.agg [.i .i64, .l], .one (.i .i64)]
abbrev Y93 := Int → Rw → Int → Rs
def l93o2 (n1 : Int) (l1 : Rw) (n2 n3 n4 : Int) (b1 : Bool) (n5 : Int) (l2 : Rw) (q1 : Int → Int → Bool → SV → Rs) : Nat → Int → Int → SV → SV → Rs
  | 0, _, _, _, _ => none
  | m + 1, n6, n7, v1, v2 =>
    let y1 := l2.getD n4.toNat []
    chk (decide (0 ≤ n4) && decide (n4 < l2.length) && isRow z64 y1) <|
    let y2 := decide (n7 < ((asL (nthD y1 6)).length : Int))
    if y2 then
     let y3 := l2.getD n4.toNat []
     chk (decide (0 ≤ n4) && decide (n4 < l2.length) && isRow z64 y3) <|
     let y4 := asL (nthD y3 6)
     let y5 := y4.getD n7.toNat []
     chk (decide (0 ≤ n7) && decide (n7 < y4.length) && isRow z129 y5) <|
     let k1 := fun (n8 : Int) =>
      let y6 := (asI (nthD y5 1)) == n2
      l93o2 n1 l1 n2 n3 n4 b1 n5 l2 q1 m n8 (w64 (n7 + (1 : Int))) (.d (.b y2)) (.d (.b y6))
     let y7 := (asI (nthD y5 1)) == n2
     if y7 then
      k1 (w64 (n6 + (1 : Int)))
     else
      k1 n6
    else
     q1 n6 n7 y2 (keepV [128] v2)
def l93o0 (n1 : Int) (l1 : Rw) (n2 n3 n4 : Int) (l2 : Rw) (q1 : Int → Int → SV → Bool → SV → SV → Rs) : Nat → Int → Int → SV → SV → SV → SV → Rs
  | 0, _, _, _, _, _, _ => none
  | m + 1, n5, n6, v1, v2, v3, v4 =>
    let y1 := decide (n6 < (l2.length : Int))
    if y1 then
     l93o2 n1 l1 n2 n3 n6 y1 n4 l2
      (fun (n7 n8 : Int) (b1 : Bool) (v5 : SV) =>
       l93o0 n1 l1 n2 n3 n4 l2 q1 m n7 (w64 (n6 + (1 : Int))) (.d (.i .i64 n8)) (.d (.b y1)) (.d (.b b1)) (keepV [128] v5)) KK n5 (0 : Int) v3 v4
    else
     q1 n5 n6 (keepV [128] v1) y1 (keepV [128] v3) (keepV [128] v4)
def t93 (n1 : Int) (l1 : Rw) (n2 : Int) : Rs :=
  l93o0 n1 l1 n2 (0 : Int) n1 l1
   (fun (n3 n4 : Int) (v1 : SV) (b1 : Bool) (v2 v3 : SV) =>
    some ([.one (.i .i64 n3)], [])) KK (0 : Int) (0 : Int) SV.undef SV.undef SV.undef SV.undef
def zr93 : List DV := [.one (.i .i64 0)]
def zo93 : Rw := []
def A93 : List TA := [.agg [.i .i64, .l], .one (.i .i64)]
abbrev Y94 := Int → Rw → Rs
def l94o0 (n1 : Int) (l1 : Rw) (n2 n3 : Int) (l2 : Rw) (q1 : Int → Int → Bool → Rs) : Nat → Int → Int → SV → Rs
  | 0, _, _, _ => none
  | m + 1, n4, n5, v1 =>
    let y1 := decide (n5 < (l2.length : Int))
    if y1 then
     let y2 := l2.getD n5.toNat []
     chk (decide (0 ≤ n5) && decide (n5 < l2.length) && isRow z64 y2) <|
     l94o0 n1 l1 n2 n3 l2 q1 m (w64 (n4 + ((asS (nthD y2 5)).size : Int))) (w64 (n5 + (1 : Int))) (.d (.b y1))
    else
     q1 n4 n5 y1
def t94 (n1 : Int) (l1 : Rw) : Rs :=
  l94o0 n1 l1 (0 : Int) n1 l1
   (fun (n2 n3 : Int) (b1 : Bool) =>
    some ([.one (.i .i64 n2)], [])) KK (0 : Int) (0 : Int) SV.undef
def zr94 : List DV := [.one (.i .i64 0)]
def zo94 : Rw := []
def A94 : List TA := [.agg [.i .i64, .l]]
abbrev Y127 := Int → Rw → Int → Rs
def la127o0 (t92 : Y92) (n1 : Int) (l1 : Rw) (n2 n3 n4 n5 : Int) (l2 l3 : Rw) (q1 : Int → Int → Int → Bool → SV → Rs) : Nat → Int → Int → Int → SV → SV → Rs
  | 0, _, _, _, _, _ => none
  | m + 1, n6, n7, n8, v1, v2 =>
    let y1 := decide (n8 < (l3.length : Int))
    if y1 then
     chk (decide (0 ≤ n8) && decide (n8 < l3.length)) <|
     let y2 := l3.getD (n8.toNat) []
     chk (decide (1 ≤ y2.length) && isF z4 0 y2) <|
     let k1 := fun (n9 n10 : Int) =>
      let y3 := asB (nthD y2 0)
      la127o0 t92 n1 l1 n2 n3 n4 n5 l2 l3 q1 m n9 n10 (w64 (n8 + (1 : Int))) (.d (.b y1)) (.d (.b y3))
     let y4 := asB (nthD y2 0)
     if y4 then
      let y5 := l2.getD n8.toNat []
      chk (decide (0 ≤ n8) && decide (n8 < l2.length) && isRow z64 y5) <|
      k1 (w64 (n6 + ((asS (nthD y5 5)).size : Int))) (w64 (n7 + (1 : Int)))
     else
      k1 n6 n7
    else
     q1 n6 n7 n8 y1 (keepV [128, 768] v2)
def ta127 (t92 : Y92) (n1 : Int) (l1 : Rw) (n2 : Int) : Rs :=
  let y1 := t92 n1 l1 n2
  chk (okR zr92 zo92 y1) <|
  la127o0 t92 n1 l1 n2 (0 : Int) (0 : Int) n1 l1 (asL (resC y1 0 0))
   (fun (n3 n4 n5 : Int) (b1 : Bool) (v1 : SV) =>
    some ([.one (.i .i64 n3), .one (.i .i64 n4)], [])) KK (0 : Int) (0 : Int) (0 : Int) SV.undef SV.undef
def t127 : Y127 := ta127 t92
def zr127 : List DV := [.one (.i .i64 0), .one (.i .i64 0)]
def zo127 : Rw := []
def A127 : List TA := [.agg [.i .i64, .l], .one (.i .i64)]
abbrev Y95 := Int → Rw → Rs
def la95o0 (t127 : Y127) (n1 : Int) (l1 : Rw) (b1 : Bool) (n2 : Int) (l2 : Rw) (q1 : Int → Int → Int → Bool → Bool → Bool → Int → Int → Int → Int → Int → ByteArray → Rw → Int → Int → Rs) (q2 : Int → SV → SV → Bool → SV → SV → Rs) : Nat → Int → SV → SV → SV → SV → SV → Rs
  | 0, _, _, _, _, _, _ => none
  | m + 1, n3, v1, v2, v3, v4, v5 =>
    let y1 := decide (n3 < (l2.length : Int))
    if y1 then
     let y2 := l2.getD n3.toNat []
     chk (decide (0 ≤ n3) && decide (n3 < l2.length) && isRow z64 y2) <|
     let y3 := asI (nthD y2 1)
     let y4 := asI (nthD y2 7)
     let y5 := asI (nthD y2 8)
     let y6 := (y3 != (2 : Int)) || ((y4 == (0 : Int)) && (y5 == (0 : Int)))
     if y6 then
      la95o0 t127 n1 l1 b1 n2 l2 q1 q2 m (w64 (n3 + (1 : Int))) (keepV [64] v1) (keepV [64] v2) (.d (.b y1)) (.d (.b y6)) (keepV [64] v5)
     else
      let y7 := asI (nthD y2 0)
      let y8 := t127 n2 l2 y7
      chk (okR zr127 zo127 y8) <|
      let y9 := asI (resC y8 0 0)
      let y10 := asI (resC y8 1 0)
      let y11 := ((decide (y4 > (0 : Int))) && (decide (y9 > y4))) || ((decide (y5 > (0 : Int))) && (decide (y10 > y5)))
      if y11 then
       q1 n3 y9 y10 y1 y6 y11 y7 y3 (asI (nthD y2 2)) (asI (nthD y2 3)) (asI (nthD y2 4)) (asS (nthD y2 5)) (asL (nthD y2 6)) y4 y5
      else
       la95o0 t127 n1 l1 b1 n2 l2 q1 q2 m (w64 (n3 + (1 : Int))) (.d (.i .i64 y9)) (.d (.i .i64 y10)) (.d (.b y1)) (.d (.b y6)) (.d (.b y11))
    else
     q2 n3 (keepV [64] v1) (keepV [64] v2) y1 (keepV [64] v4) (keepV [64] v5)
def ta95 (t127 : Y127) (n1 : Int) (l1 : Rw) : Rs :=
  la95o0 t127 n1 l1 false n1 l1
   (fun (n2 n3 n4 : Int) (b1 b2 b3 : Bool) (n5 n6 n7 n8 n9 : Int) (s1 : ByteArray) (l2 : Rw) (n10 n11 : Int) =>
    some ([.one (.b true)], []))
   (fun (n12 : Int) (v1 v2 : SV) (b4 : Bool) (v3 v4 : SV) =>
    some ([.one (.b false)], [])) KK (0 : Int) SV.undef SV.undef SV.undef SV.undef SV.undef
def t95 : Y95 := ta95 t127
def zr95 : List DV := [.one (.b false)]
def zo95 : Rw := []
def A95 : List TA := [.agg [.i .i64, .l]]
abbrev Y56 := Int → Rw → Rs
def la56o4 (t57 : Y57) (t91 : Y91) (t92 : Y92) (t93 : Y93) (t94 : Y94) (t95 : Y95) (n1 : Int) (l1 : Rw) (b1 : Bool) (n2 : Int) (b2 b3 : Bool) (n3 : Int) (l2 l3 : Rw) (q1 : Int → SV → Bool → Bool → Rs) (q2 : Int → SV → Bool → SV → Rs) : Nat → Int → SV → SV → SV → Rs
  | 0, _, _, _, _ => none
  | m + 1, n4, v1, v2, v3 =>
    let y1 := decide (n4 < (l2.length : Int))
    if y1 then
     chk (decide (0 ≤ n4) && decide (n4 < l3.length)) <|
     let y2 := l3.getD (n4.toNat) []
     chk (decide (1 ≤ y2.length) && isF z4 0 y2) <|
     let y3 := l2.getD n4.toNat []
     let y4 := !(asB (nthD y2 0))
     chk ((decide (0 ≤ n4) && decide (n4 < l2.length) && isRow z64 y3) || !(!y4)) <|
     let y5 := l2.getD n4.toNat []
     let y6 := !y4
     let y7 := (asI (nthD y3 1)) == (2 : Int)
     chk ((decide (0 ≤ n4) && decide (n4 < l2.length) && isRow z64 y5) || !(y6 && y7)) <|
     let y8 := t93 n3 l2 (asI (nthD y5 0))
     chk ((okR zr93 zo93 y8) || !(y6 && y7)) <|
     let y9 := y4 || (y7 && ((asI (resC y8 0 0)) != (1 : Int)))
     if y9 then
      q1 n4 v1 y1 y9
     else
      la56o4 t57 t91 t92 t93 t94 t95 n1 l1 b1 n2 b2 b3 n3 l2 l3 q1 q2 m (w64 (n4 + (1 : Int))) (keepV [64, 4864] v1) (.d (.b y1)) (.d (.b y9))
    else
     q2 n4 (keepV [64, 4864] v1) y1 (keepV [64, 4864] v3)
def la56o1 (t57 : Y57) (t91 : Y91) (t92 : Y92) (t93 : Y93) (t94 : Y94) (t95 : Y95) (n1 : Int) (l1 : Rw) (b1 b2 : Bool) (n2 : Int) (l2 : Rw) (q1 : Int → Bool → Bool → Int → Int → Int → Int → Int → ByteArray → Rw → Int → Int → Rs) (q2 : Int → Bool → SV → Rs) : Nat → Int → SV → SV → Rs
  | 0, _, _, _ => none
  | m + 1, n3, v1, v2 =>
    let y1 := decide (n3 < (l2.length : Int))
    if y1 then
     let y2 := l2.getD n3.toNat []
     chk (decide (0 ≤ n3) && decide (n3 < l2.length) && isRow z64 y2) <|
     let y3 := asI (nthD y2 0)
     let y4 := t57 y3 (1 : Int) (w64 (n2 - (1 : Int)))
     chk (okR zr57 zo57 y4) <|
     let y5 := w64 (n3 - (1 : Int))
     let y6 := l2.getD y5.toNat []
     let y7 := !(asB (resC y4 0 0))
     let y8 := decide (n3 > (0 : Int))
     chk ((decide (0 ≤ y5) && decide (y5 < l2.length) && isRow z64 y6) || !((!y7) && y8)) <|
     let y9 := asI (nthD y2 1)
     let y10 := asI (nthD y2 2)
     let y11 := asI (nthD y2 3)
     let y12 := asI (nthD y2 4)
     let y13 := asS (nthD y2 5)
     let y14 := asL (nthD y2 6)
     let y15 := asI (nthD y2 7)
     let y16 := asI (nthD y2 8)
     let y17 := t91 n2 l2 y3 y9 y10 y11 y12 y13 y14 y15 y16
     let y18 := y7 || (y8 && (decide ((asI (nthD y6 0)) ≥ y3)))
     chk ((okR zr91 zo91 y17) || !(!y18)) <|
     let y19 := y18 || (!(asB (resC y17 0 0)))
     if y19 then
      q1 n3 y1 y19 y3 y9 y10 y11 y12 y13 y14 y15 y16
     else
      la56o1 t57 t91 t92 t93 t94 t95 n1 l1 b1 b2 n2 l2 q1 q2 m (w64 (n3 + (1 : Int))) (.d (.b y1)) (.d (.b y19))
    else
     q2 n3 y1 (keepV [64] v2)
def ta56 (t57 : Y57) (t91 : Y91) (t92 : Y92) (t93 : Y93) (t94 : Y94) (t95 : Y95) (n1 : Int) (l1 : Rw) : Rs :=
  let y1 := t57 n1 (2 : Int) (100000 : Int)
  chk (okR zr57 zo57 y1) <|
  let y2 := t57 (l1.length : Int) (1 : Int) (24 : Int)
  let y3 := !(asB (resC y1 0 0))
  chk ((okR zr57 zo57 y2) || !(!y3)) <|
  let y4 := l1.getD (0 : Int).toNat []
  let y5 := y3 || (!(asB (resC y2 0 0)))
  chk ((decide (0 ≤ (0 : Int)) && decide ((0 : Int) < l1.length) && isRow z64 y4) || !(!y5)) <|
  let y6 := l1.getD (0 : Int).toNat []
  let y7 := y5 || ((asI (nthD y4 0)) != (1 : Int))
  chk ((decide (0 ≤ (0 : Int)) && decide ((0 : Int) < l1.length) && isRow z64 y6) || !(!y7)) <|
  let y8 := y7 || ((asI (nthD y6 1)) != (2 : Int))
  if y8 then
   some ([.one (.b false)], [])
  else
   la56o1 t57 t91 t92 t93 t94 t95 n1 l1 false y8 n1 l1
    (fun (n2 : Int) (b1 b2 : Bool) (n3 n4 n5 n6 n7 : Int) (s1 : ByteArray) (l2 : Rw) (n8 n9 : Int) =>
     some ([.one (.b false)], []))
    (fun (n10 : Int) (b3 : Bool) (v1 : SV) =>
     let y9 := t92 n1 l1 (1 : Int)
     chk (okR zr92 zo92 y9) <|
     la56o4 t57 t91 t92 t93 t94 t95 n1 l1 false n10 y8 b3 n1 l1 (asL (resC y9 0 0))
      (fun (n11 : Int) (v2 : SV) (b4 b5 : Bool) =>
       some ([.one (.b false)], []))
      (fun (n12 : Int) (v3 : SV) (b6 : Bool) (v4 : SV) =>
       chk (okR zr94 zo94 (t94 n1 l1)) <|
       let y10 := decide ((asI (resC (t94 n1 l1) 0 0)) ≤ (400 : Int))
       chk ((okR zr95 zo95 (t95 n1 l1)) || !y10) <|
       some ([.one (.b (y10 && (!(asB (resC (t95 n1 l1) 0 0)))))], [])) KK (1 : Int) v1 SV.undef SV.undef) KK (0 : Int) SV.undef SV.undef
def t56 : Y56 := ta56 t57 t91 t92 t93 t94 t95
def zr56 : List DV := [.one (.b false)]
def zo56 : Rw := []
def A56 : List TA := [.agg [.i .i64, .l]]
abbrev Y67 := ByteArray → Rs
def ta67 (t69 : Y69) (s1 : ByteArray) : Rs :=
  let y1 := t69 (s1.size : Int)
  chk (okR zr69 zo69 y1) <|
  let y2 := asS (resC y1 0 0)
  chk (decide (y2.size + s1.size ≤ lim)) <|
  some ([.one (.s (y2 ++ s1))], [])
def t67 : Y67 := ta67 t69
def zr67 : List DV := [.one (.s ⟨#[]⟩)]
def zo67 : Rw := []
def A67 : List TA := [.one (.s)]
abbrev Y68 := Int → Rw → Rs
def la68o3 (t56 : Y56) (t67 : Y67) (t69 : Y69) (n1 : Int) (l1 : Rw) (s1 : ByteArray) (n2 : Int) (b1 b2 : Bool) (n3 : Int) (l2 : Rw) (n4 n5 n6 n7 n8 : Int) (s2 : ByteArray) (l3 : Rw) (n9 n10 : Int) (q1 : ByteArray → Int → Bool → Rs) : Nat → ByteArray → Int → SV → Rs
  | 0, _, _, _ => none
  | m + 1, s3, n11, v1 =>
    let y1 := decide (n11 < (l3.length : Int))
    if y1 then
     let y2 := l3.getD n11.toNat []
     chk (decide (0 ≤ n11) && decide (n11 < l3.length) && isRow z129 y2) <|
     let y3 := t67 (asS (nthD y2 0))
     chk (okR zr67 zo67 y3) <|
     let y4 := asS (resC y3 0 0)
     chk (decide (s3.size + y4.size ≤ lim)) <|
     let y5 := l3.getD n11.toNat []
     chk (decide (0 ≤ n11) && decide (n11 < l3.length) && isRow z129 y5) <|
     let y6 := t69 (asI (nthD y5 1))
     chk (okR zr69 zo69 y6) <|
     let y7 := s3 ++ y4
     let y8 := asS (resC y6 0 0)
     chk (decide (y7.size + y8.size ≤ lim)) <|
     la68o3 t56 t67 t69 n1 l1 s1 n2 b1 b2 n3 l2 n4 n5 n6 n7 n8 s2 l3 n9 n10 q1 m (y7 ++ y8) (w64 (n11 + (1 : Int))) (.d (.b y1))
    else
     q1 s3 n11 y1
def la68o1 (t56 : Y56) (t67 : Y67) (t69 : Y69) (n1 : Int) (l1 : Rw) (s1 : ByteArray) (b1 : Bool) (n2 : Int) (l2 : Rw) (q1 : ByteArray → Int → SV → Bool → SV → Rs) : Nat → ByteArray → Int → SV → SV → SV → Rs
  | 0, _, _, _, _, _ => none
  | m + 1, s2, n3, v1, v2, v3 =>
    let y1 := decide (n3 < (l2.length : Int))
    if y1 then
     let y2 := l2.getD n3.toNat []
     chk (decide (0 ≤ n3) && decide (n3 < l2.length) && isRow z64 y2) <|
     let y3 := asI (nthD y2 0)
     let y4 := t69 y3
     chk (okR zr69 zo69 y4) <|
     let y5 := asS (resC y4 0 0)
     chk (decide (s2.size + y5.size ≤ lim)) <|
     let y6 := asI (nthD y2 1)
     let y7 := t69 y6
     chk (okR zr69 zo69 y7) <|
     let y8 := s2 ++ y5
     let y9 := asS (resC y7 0 0)
     chk (decide (y8.size + y9.size ≤ lim)) <|
     let y10 := asI (nthD y2 2)
     let y11 := t69 y10
     chk (okR zr69 zo69 y11) <|
     let y12 := y8 ++ y9
     let y13 := asS (resC y11 0 0)
     chk (decide (y12.size + y13.size ≤ lim)) <|
     let y14 := asI (nthD y2 3)
     let y15 := t69 y14
     chk (okR zr69 zo69 y15) <|
     let y16 := y12 ++ y13
     let y17 := asS (resC y15 0 0)
     chk (decide (y16.size + y17.size ≤ lim)) <|
     let y18 := asI (nthD y2 4)
     let y19 := t69 y18
     chk (okR zr69 zo69 y19) <|
     let y20 := y16 ++ y17
     let y21 := asS (resC y19 0 0)
     chk (decide (y20.size + y21.size ≤ lim)) <|
     let y22 := asI (nthD y2 7)
     let y23 := t69 y22
     chk (okR zr69 zo69 y23) <|
     let y24 := y20 ++ y21
     let y25 := asS (resC y23 0 0)
     chk (decide (y24.size + y25.size ≤ lim)) <|
     let y26 := asI (nthD y2 8)
     let y27 := t69 y26
     chk (okR zr69 zo69 y27) <|
     let y28 := y24 ++ y25
     let y29 := asS (resC y27 0 0)
     chk (decide (y28.size + y29.size ≤ lim)) <|
     let y30 := asS (nthD y2 5)
     let y31 := t67 y30
     chk (okR zr67 zo67 y31) <|
     let y32 := y28 ++ y29
     let y33 := asS (resC y31 0 0)
     chk (decide (y32.size + y33.size ≤ lim)) <|
     let y34 := asL (nthD y2 6)
     let y35 := t69 (y34.length : Int)
     chk (okR zr69 zo69 y35) <|
     let y36 := y32 ++ y33
     let y37 := asS (resC y35 0 0)
     chk (decide (y36.size + y37.size ≤ lim)) <|
     la68o3 t56 t67 t69 n1 l1 s1 n3 b1 y1 n2 l2 y3 y6 y10 y14 y18 y30 y34 y22 y26
      (fun (s3 : ByteArray) (n4 : Int) (b2 : Bool) =>
       la68o1 t56 t67 t69 n1 l1 s1 b1 n2 l2 q1 m s3 (w64 (n3 + (1 : Int))) (.d (.i .i64 n4)) (.d (.b y1)) (.d (.b b2))) KK (y36 ++ y37) (0 : Int) v3
    else
     q1 s2 n3 (keepV [64] v1) y1 (keepV [64] v3)
def ta68 (t56 : Y56) (t67 : Y67) (t69 : Y69) (n1 : Int) (l1 : Rw) : Rs :=
  chk (okR zr56 zo56 (t56 n1 l1)) <|
  let y1 := !(asB (resC (t56 n1 l1) 0 0))
  if y1 then
   some ([.one (.s (⟨#[]⟩ : ByteArray))], [])
  else
   chk (okR zr69 zo69 (t69 n1)) <|
   let y2 := t69 (l1.length : Int)
   chk (okR zr69 zo69 y2) <|
   let y3 := asS (resC (t69 n1) 0 0)
   let y4 := asS (resC y2 0 0)
   chk (decide (y3.size + y4.size ≤ lim)) <|
   la68o1 t56 t67 t69 n1 l1 (⟨#[]⟩ : ByteArray) y1 n1 l1
    (fun (s1 : ByteArray) (n2 : Int) (v1 : SV) (b1 : Bool) (v2 : SV) =>
     some ([.one (.s s1)], [])) KK (y3 ++ y4) (0 : Int) SV.undef SV.undef SV.undef
def t68 : Y68 := ta68 t56 t67 t69
def zr68 : List DV := [.one (.s ⟨#[]⟩)]
def zo68 : Rw := []
def A68 : List TA := [.agg [.i .i64, .l]]
abbrev Y79 := ByteArray → Rs
def la79o1 (t68 : Y68) (t78 : Y78) (t114 : Y114) (s1 : ByteArray) (b1 b2 : Bool) (n1 n2 : Int) (l1 : Rw) (q1 : Int → Int → Int → Bool → Bool → Int → Int → Int → Int → Int → ByteArray → Int → Int → Rw → Rw → Rs) (q2 : Int → Int → SV → Bool → SV → Rw → Rs) : Nat → Int → Int → SV → SV → SV → Rw → Rs
  | 0, _, _, _, _, _, _ => none
  | m + 1, n3, n4, v1, v2, v3, l2 =>
    chk (decide (0 ≤ (1 : Int)) && decide ((1 : Int) < l1.length)) <|
    let y1 := l1.getD ((1 : Int).toNat) []
    chk (decide (1 ≤ y1.length) && isF z3 0 y1) <|
    let y2 := decide (n4 < (asI (nthD y1 0)))
    if y2 then
     chk (okR zr114 zo114 (t114 s1 n3)) <|
     let y3 := asI (resC (t114 s1 n3) 1 0)
     let y4 := decide (y3 < (0 : Int))
     if y4 then
      let y5 := asI (resC (t114 s1 n3) 0 0)
      let y6 := asI (resC (t114 s1 n3) 0 1)
      let y7 := asI (resC (t114 s1 n3) 0 2)
      let y8 := asI (resC (t114 s1 n3) 0 3)
      let y9 := asI (resC (t114 s1 n3) 0 4)
      let y10 := asS (resC (t114 s1 n3) 0 5)
      let y11 := asI (resC (t114 s1 n3) 0 7)
      let y12 := asI (resC (t114 s1 n3) 0 8)
      let y13 := asL (resC (t114 s1 n3) 0 6)
      q1 n3 n4 y3 y2 y4 y5 y6 y7 y8 y9 y10 y11 y12 l2 y13
     else
      let y14 := asI (resC (t114 s1 n3) 0 0)
      let y15 := asI (resC (t114 s1 n3) 0 1)
      let y16 := asI (resC (t114 s1 n3) 0 2)
      let y17 := asI (resC (t114 s1 n3) 0 3)
      let y18 := asI (resC (t114 s1 n3) 0 4)
      let y19 := asS (resC (t114 s1 n3) 0 5)
      let y20 := asL (resC (t114 s1 n3) 0 6)
      let y21 := asI (resC (t114 s1 n3) 0 7)
      let y22 := asI (resC (t114 s1 n3) 0 8)
      let y23 := ([[.i .i64 y14, .i .i64 y15, .i .i64 y16, .i .i64 y17, .i .i64 y18, .s y19, .l y20, .i .i64 y21, .i .i64 y22]] : Rw)
      chk (true && decide (l2.length + y23.length ≤ lim)) <|
      la79o1 t68 t78 t114 s1 b1 b2 n1 n2 l1 q1 q2 m y3 (w64 (n4 + (1 : Int))) (.d (.i .i64 y3)) (.d (.b y2)) (.d (.b y4)) (l2 ++ y23)
    else
     q2 n3 n4 (keepV [128, 384, 768, 24578] v1) y2 (keepV [128, 384, 768, 24578] v3) l2
def ta79 (t68 : Y68) (t78 : Y78) (t114 : Y114) (s1 : ByteArray) : Rs :=
  let y1 := t78 s1 (0 : Int) (2 : Int)
  chk (okR zr78 zo78 y1) <|
  let y2 := asL (resC y1 0 0)
  let y3 := asI (resC y1 1 0)
  let y4 := decide (y3 < (0 : Int))
  chk ((decide (0 ≤ (1 : Int)) && decide ((1 : Int) < y2.length)) || !(!y4)) <|
  let y5 := y2.getD ((1 : Int).toNat) []
  chk ((decide (1 ≤ y5.length) && isF z3 0 y5) || !(!y4)) <|
  let y6 := y4 || (decide ((asI (nthD y5 0)) > (24 : Int)))
  if y6 then
   some ([.agg [.i .i64 (0 : Int), .l ([] : Rw)], .one (.b false)], [])
  else
   chk (decide (0 ≤ (0 : Int)) && decide ((0 : Int) < y2.length)) <|
   let y7 := y2.getD ((0 : Int).toNat) []
   chk (decide (1 ≤ y7.length) && isF z3 0 y7) <|
   let y8 := asI (nthD y7 0)
   la79o1 t68 t78 t114 s1 false y6 (0 : Int) y8 y2
    (fun (n1 n2 n3 : Int) (b1 b2 : Bool) (n4 n5 n6 n7 n8 : Int) (s2 : ByteArray) (n9 n10 : Int) (l1 l2 : Rw) =>
     some ([.agg [.i .i64 (0 : Int), .l ([] : Rw)], .one (.b false)], []))
    (fun (n11 n12 : Int) (v1 : SV) (b3 : Bool) (v2 : SV) (l3 : Rw) =>
     let y9 := t68 y8 l3
     chk (okR zr68 zo68 y9) <|
     if !((asS (resC y9 0 0)).toList == s1.toList) then
      some ([.agg [.i .i64 (0 : Int), .l ([] : Rw)], .one (.b false)], [])
     else
      some ([.agg [.i .i64 y8, .l l3], .one (.b true)], [])) KK y3 (0 : Int) SV.undef SV.undef SV.undef ([] : Rw)
def t79 : Y79 := ta79 t68 t78 t114
def zr79 : List DV := [.agg [.i .i64 0, .l []], .one (.b false)]
def zo79 : Rw := []
def A79 : List TA := [.one (.s)]
abbrev Y59 := Int → ByteArray → Rs
def ta59 (t57 : Y57) (n1 : Int) (s1 : ByteArray) : Rs :=
  let y1 := t57 n1 (0 : Int) (200 : Int)
  chk (okR zr57 zo57 y1) <|
  some ([.one (.b ((asB (resC y1 0 0)) && (decide ((s1.size : Int) ≤ (400 : Int)))))], [])
def t59 : Y59 := ta59 t57
def zr59 : List DV := [.one (.b false)]
def zo59 : Rw := []
def A59 : List TA := [.agg [.i .i64, .s]]
abbrev Y70 := Int → ByteArray → Rs
def ta70 (t59 : Y59) (t69 : Y69) (n1 : Int) (s1 : ByteArray) : Rs :=
  chk (okR zr59 zo59 (t59 n1 s1)) <|
  if !(asB (resC (t59 n1 s1) 0 0)) then
   some ([.one (.s (⟨#[]⟩ : ByteArray))], [])
  else
   chk (okR zr69 zo69 (t69 n1)) <|
   let y1 := asS (resC (t69 n1) 0 0)
   chk (decide (y1.size + s1.size ≤ lim)) <|
   some ([.one (.s (y1 ++ s1))], [])
def t70 : Y70 := ta70 t59 t69
def zr70 : List DV := [.one (.s ⟨#[]⟩)]
def zo70 : Rw := []
def A70 : List TA := [.agg [.i .i64, .s]]
abbrev Y80 := ByteArray → Rs
def ta80 (t70 : Y70) (t78 : Y78) (s1 : ByteArray) : Rs :=
  let y1 := t78 s1 (0 : Int) (1 : Int)
  chk (okR zr78 zo78 y1) <|
  let y2 := asI (resC y1 1 0)
  if decide (y2 < (0 : Int)) then
   some ([.agg [.i .i64 (0 : Int), .s (⟨#[]⟩ : ByteArray)], .one (.b false)], [])
  else
   let y3 := asL (resC y1 0 0)
   chk (decide (0 ≤ (0 : Int)) && decide ((0 : Int) < y3.length)) <|
   let y4 := y3.getD ((0 : Int).toNat) []
   chk (decide (1 ≤ y4.length) && isF z3 0 y4) <|
   chk (decide (0 ≤ y2 ∧ y2 ≤ s1.size)) <|
   let y5 := asI (nthD y4 0)
   let y6 := s1.extract y2.toNat s1.size
   let y7 := t70 y5 y6
   chk (okR zr70 zo70 y7) <|
   if !((asS (resC y7 0 0)).toList == s1.toList) then
    some ([.agg [.i .i64 (0 : Int), .s (⟨#[]⟩ : ByteArray)], .one (.b false)], [])
   else
    some ([.agg [.i .i64 y5, .s y6], .one (.b true)], [])
def t80 : Y80 := ta80 t70 t78
def zr80 : List DV := [.agg [.i .i64 0, .s ⟨#[]⟩], .one (.b false)]
def zo80 : Rw := []
def A80 : List TA := [.one (.s)]
abbrev Y58 := Rw → Rs
def la58o1 (t57 : Y57) (l1 : Rw) (b1 b2 : Bool) (q1 : Int → Bool → Bool → Int → Int → Int → Int → Int → Rs) (q2 : Int → Bool → SV → Rs) : Nat → Int → SV → SV → Rs
  | 0, _, _, _ => none
  | m + 1, n1, v1, v2 =>
    let y1 := decide (n1 < (l1.length : Int))
    if y1 then
     let y2 := l1.getD n1.toNat []
     chk (decide (0 ≤ n1) && decide (n1 < l1.length) && isRow z90 y2) <|
     let y3 := asI (nthD y2 0)
     let y4 := t57 y3 (1 : Int) (100000 : Int)
     chk (okR zr57 zo57 y4) <|
     let y5 := w64 (n1 - (1 : Int))
     let y6 := l1.getD y5.toNat []
     let y7 := !(asB (resC y4 0 0))
     let y8 := decide (n1 > (0 : Int))
     chk ((decide (0 ≤ y5) && decide (y5 < l1.length) && isRow z90 y6) || !((!y7) && y8)) <|
     let y9 := asI (nthD y2 1)
     let y10 := t57 y9 (1 : Int) (3 : Int)
     let y11 := y7 || (y8 && (decide ((asI (nthD y6 0)) > y3)))
     chk ((okR zr57 zo57 y10) || !(!y11)) <|
     let y12 := asI (nthD y2 2)
     let y13 := t57 y12 (1 : Int) (1000000 : Int)
     let y14 := y11 || (!(asB (resC y10 0 0)))
     chk ((okR zr57 zo57 y13) || !(!y14)) <|
     let y15 := asI (nthD y2 3)
     let y16 := t57 y15 (1 : Int) (22 : Int)
     let y17 := y14 || (!(asB (resC y13 0 0)))
     chk ((okR zr57 zo57 y16) || !(!y17)) <|
     let y18 := asI (nthD y2 4)
     let y19 := t57 y18 (0 : Int) (200 : Int)
     let y20 := y17 || (!(asB (resC y16 0 0)))
     chk ((okR zr57 zo57 y19) || !(!y20)) <|
     let y21 := y20 || (!(asB (resC y19 0 0)))
     if y21 then
      q1 n1 y1 y21 y3 y9 y12 y15 y18
     else
      la58o1 t57 l1 b1 b2 q1 q2 m (w64 (n1 + (1 : Int))) (.d (.b y1)) (.d (.b y21))
    else
     q2 n1 y1 (keepV [] v2)
def ta58 (t57 : Y57) (l1 : Rw) : Rs :=
  let y1 := decide ((l1.length : Int) > (20 : Int))
  if y1 then
   some ([.one (.b false)], [])
  else
   la58o1 t57 l1 false y1
    (fun (n1 : Int) (b1 b2 : Bool) (n2 n3 n4 n5 n6 : Int) =>
     some ([.one (.b false)], []))
    (fun (n7 : Int) (b3 : Bool) (v1 : SV) =>
     some ([.one (.b true)], [])) KK (0 : Int) SV.undef SV.undef
def t58 : Y58 := ta58 t57
def zr58 : List DV := [.one (.b false)]
def zo58 : Rw := []
def A58 : List TA := [.one (.l)]
abbrev Y23 := Int → Rw → Int → Rw → Rw → Rs
def la23o1 (t56 : Y56) (t57 : Y57) (t58 : Y58) (t59 : Y59) (n1 : Int) (l1 : Rw) (n2 : Int) (l2 l3 : Rw) (b1 b2 : Bool) (n3 : Int) (l4 : Rw) (n4 : Int) (l5 l6 : Rw) (q1 : Int → Bool → Bool → Int → Int → Int → Int → ByteArray → Rs) (q2 : Int → Bool → SV → Rs) : Nat → Int → SV → SV → Rs
  | 0, _, _, _ => none
  | m + 1, n5, v1, v2 =>
    let y1 := decide (n5 < (l6.length : Int))
    if y1 then
     let y2 := l6.getD n5.toNat []
     chk (decide (0 ≤ n5) && decide (n5 < l6.length) && isRow z81 y2) <|
     let y3 := asI (nthD y2 0)
     let y4 := t57 y3 (1 : Int) (3 : Int)
     chk (okR zr57 zo57 y4) <|
     let y5 := w64 (n5 - (1 : Int))
     let y6 := l6.getD y5.toNat []
     let y7 := !(asB (resC y4 0 0))
     let y8 := decide (n5 > (0 : Int))
     chk ((decide (0 ≤ y5) && decide (y5 < l6.length) && isRow z81 y6) || !((!y7) && y8)) <|
     let y9 := asI (nthD y2 1)
     let y10 := t57 y9 (1 : Int) (1000000 : Int)
     let y11 := y7 || (y8 && (decide ((asI (nthD y6 0)) ≥ y3)))
     chk ((okR zr57 zo57 y10) || !(!y11)) <|
     let y12 := asI (nthD y2 2)
     let y13 := t57 y12 (1 : Int) (100000 : Int)
     let y14 := y11 || (!(asB (resC y10 0 0)))
     chk ((okR zr57 zo57 y13) || !(!y14)) <|
     let y15 := asI (nthD y2 3)
     let y16 := asS (nthD y2 4)
     let y17 := t59 y15 y16
     let y18 := y14 || (!(asB (resC y13 0 0)))
     chk ((okR zr59 zo59 y17) || !(!y18)) <|
     let y19 := y18 || (!(asB (resC y17 0 0)))
     if y19 then
      q1 n5 y1 y19 y3 y9 y12 y15 y16
     else
      la23o1 t56 t57 t58 t59 n1 l1 n2 l2 l3 b1 b2 n3 l4 n4 l5 l6 q1 q2 m (w64 (n5 + (1 : Int))) (.d (.b y1)) (.d (.b y19))
    else
     q2 n5 y1 (keepV [64] v2)
def ta23 (t56 : Y56) (t57 : Y57) (t58 : Y58) (t59 : Y59) (n1 : Int) (l1 : Rw) (n2 : Int) (l2 l3 : Rw) : Rs :=
  chk (okR zr56 zo56 (t56 n1 l1)) <|
  let y1 := t57 n2 (0 : Int) (30 : Int)
  let y2 := !(asB (resC (t56 n1 l1) 0 0))
  chk ((okR zr57 zo57 y1) || !(!y2)) <|
  let y3 := y2 || (!(asB (resC y1 0 0)))
  chk ((okR zr58 zo58 (t58 l2)) || !(!y3)) <|
  let y4 := (y3 || (!(asB (resC (t58 l2) 0 0)))) || (decide ((l3.length : Int) > (3 : Int)))
  if y4 then
   some ([.one (.b false)], [])
  else
   la23o1 t56 t57 t58 t59 n1 l1 n2 l2 l3 false y4 n1 l1 n2 l2 l3
    (fun (n3 : Int) (b1 b2 : Bool) (n4 n5 n6 n7 : Int) (s1 : ByteArray) =>
     some ([.one (.b false)], []))
    (fun (n8 : Int) (b3 : Bool) (v1 : SV) =>
     some ([.one (.b true)], [])) KK (0 : Int) SV.undef SV.undef
def t23 : Y23 := ta23 t56 t57 t58 t59
def zr23 : List DV := [.one (.b false)]
def zo23 : Rw := []
def A23 : List TA := [.agg [.i .i64, .l, .i .i64, .l, .l]]
abbrev Y30 := Int → Rw → Int → Rw → Rw → Rs
def la30o3 (t23 : Y23) (t67 : Y67) (t68 : Y68) (t69 : Y69) (t70 : Y70) (n1 : Int) (l1 : Rw) (n2 : Int) (l2 l3 : Rw) (s1 : ByteArray) (n3 : Int) (b1 b2 : Bool) (n4 : Int) (l4 : Rw) (n5 : Int) (l5 l6 : Rw) (q1 : ByteArray → Int → Bool → Rs) : Nat → ByteArray → Int → SV → Rs
  | 0, _, _, _ => none
  | m + 1, s2, n6, v1 =>
    let y1 := decide (n6 < (l6.length : Int))
    if y1 then
     let y2 := l6.getD n6.toNat []
     chk (decide (0 ≤ n6) && decide (n6 < l6.length) && isRow z81 y2) <|
     let y3 := t69 (asI (nthD y2 0))
     chk (okR zr69 zo69 y3) <|
     let y4 := asS (resC y3 0 0)
     chk (decide (s2.size + y4.size ≤ lim)) <|
     let y5 := t69 (asI (nthD y2 1))
     chk (okR zr69 zo69 y5) <|
     let y6 := s2 ++ y4
     let y7 := asS (resC y5 0 0)
     chk (decide (y6.size + y7.size ≤ lim)) <|
     let y8 := t69 (asI (nthD y2 2))
     chk (okR zr69 zo69 y8) <|
     let y9 := y6 ++ y7
     let y10 := asS (resC y8 0 0)
     chk (decide (y9.size + y10.size ≤ lim)) <|
     let y11 := t70 (asI (nthD y2 3)) (asS (nthD y2 4))
     chk (okR zr70 zo70 y11) <|
     let y12 := t67 (asS (resC y11 0 0))
     chk (okR zr67 zo67 y12) <|
     let y13 := y9 ++ y10
     let y14 := asS (resC y12 0 0)
     chk (decide (y13.size + y14.size ≤ lim)) <|
     la30o3 t23 t67 t68 t69 t70 n1 l1 n2 l2 l3 s1 n3 b1 b2 n4 l4 n5 l5 l6 q1 m (y13 ++ y14) (w64 (n6 + (1 : Int))) (.d (.b y1))
    else
     q1 s2 n6 y1
def la30o1 (t23 : Y23) (t67 : Y67) (t68 : Y68) (t69 : Y69) (t70 : Y70) (n1 : Int) (l1 : Rw) (n2 : Int) (l2 l3 : Rw) (s1 : ByteArray) (b1 : Bool) (n3 : Int) (l4 : Rw) (n4 : Int) (l5 l6 : Rw) (q1 : ByteArray → Int → Bool → Rs) : Nat → ByteArray → Int → SV → Rs
  | 0, _, _, _ => none
  | m + 1, s2, n5, v1 =>
    let y1 := decide (n5 < (l5.length : Int))
    if y1 then
     let y2 := l5.getD n5.toNat []
     chk (decide (0 ≤ n5) && decide (n5 < l5.length) && isRow z90 y2) <|
     let y3 := t69 (asI (nthD y2 0))
     chk (okR zr69 zo69 y3) <|
     let y4 := asS (resC y3 0 0)
     chk (decide (s2.size + y4.size ≤ lim)) <|
     let y5 := t69 (asI (nthD y2 1))
     chk (okR zr69 zo69 y5) <|
     let y6 := s2 ++ y4
     let y7 := asS (resC y5 0 0)
     chk (decide (y6.size + y7.size ≤ lim)) <|
     let y8 := t69 (asI (nthD y2 2))
     chk (okR zr69 zo69 y8) <|
     let y9 := y6 ++ y7
     let y10 := asS (resC y8 0 0)
     chk (decide (y9.size + y10.size ≤ lim)) <|
     let y11 := t69 (asI (nthD y2 3))
     chk (okR zr69 zo69 y11) <|
     let y12 := y9 ++ y10
     let y13 := asS (resC y11 0 0)
     chk (decide (y12.size + y13.size ≤ lim)) <|
     let y14 := t69 (asI (nthD y2 4))
     chk (okR zr69 zo69 y14) <|
     let y15 := y12 ++ y13
     let y16 := asS (resC y14 0 0)
     chk (decide (y15.size + y16.size ≤ lim)) <|
     la30o1 t23 t67 t68 t69 t70 n1 l1 n2 l2 l3 s1 b1 n3 l4 n4 l5 l6 q1 m (y15 ++ y16) (w64 (n5 + (1 : Int))) (.d (.b y1))
    else
     q1 s2 n5 y1
def ta30 (t23 : Y23) (t67 : Y67) (t68 : Y68) (t69 : Y69) (t70 : Y70) (n1 : Int) (l1 : Rw) (n2 : Int) (l2 l3 : Rw) : Rs :=
  let y1 := t23 n1 l1 n2 l2 l3
  chk (okR zr23 zo23 y1) <|
  let y2 := !(asB (resC y1 0 0))
  if y2 then
   some ([.one (.s (⟨#[]⟩ : ByteArray))], [])
  else
   chk (okR zr68 zo68 (t68 n1 l1)) <|
   let y3 := t67 (asS (resC (t68 n1 l1) 0 0))
   chk (okR zr67 zo67 y3) <|
   chk (okR zr69 zo69 (t69 n2)) <|
   let y4 := asS (resC y3 0 0)
   let y5 := asS (resC (t69 n2) 0 0)
   chk (decide (y4.size + y5.size ≤ lim)) <|
   let y6 := t69 (l2.length : Int)
   chk (okR zr69 zo69 y6) <|
   let y7 := y4 ++ y5
   let y8 := asS (resC y6 0 0)
   chk (decide (y7.size + y8.size ≤ lim)) <|
   la30o1 t23 t67 t68 t69 t70 n1 l1 n2 l2 l3 (⟨#[]⟩ : ByteArray) y2 n1 l1 n2 l2 l3
    (fun (s1 : ByteArray) (n3 : Int) (b1 : Bool) =>
     let y9 := t69 (l3.length : Int)
     chk (okR zr69 zo69 y9) <|
     let y10 := asS (resC y9 0 0)
     chk (decide (s1.size + y10.size ≤ lim)) <|
     la30o3 t23 t67 t68 t69 t70 n1 l1 n2 l2 l3 (⟨#[]⟩ : ByteArray) n3 y2 b1 n1 l1 n2 l2 l3
      (fun (s2 : ByteArray) (n4 : Int) (b2 : Bool) =>
       some ([.one (.s s2)], [])) KK (s1 ++ y10) (0 : Int) SV.undef) KK (y7 ++ y8) (0 : Int) SV.undef
def t30 : Y30 := ta30 t23 t67 t68 t69 t70
def zr30 : List DV := [.one (.s ⟨#[]⟩)]
def zo30 : Rw := []
def A30 : List TA := [.agg [.i .i64, .l, .i .i64, .l, .l]]
abbrev Y36 := ByteArray → Rs
def la36o5 (t30 : Y30) (t77 : Y77) (t78 : Y78) (t79 : Y79) (t80 : Y80) (s1 : ByteArray) (b1 : Bool) (s2 : ByteArray) (n1 : Int) (b2 b3 b4 : Bool) (n2 n3 n4 n5 n6 n7 n8 : Int) (l1 l2 l3 l4 : Rw) (q1 : Int → SV → Int → Int → ByteArray → Bool → SV → Bool → Bool → Int → ByteArray → Rw → Rw → Rs) (q2 : Int → SV → Int → SV → SV → SV → SV → Bool → SV → Rw → Rs) : Nat → Int → SV → Int → SV → SV → SV → SV → SV → SV → Rw → Rs
  | 0, _, _, _, _, _, _, _, _, _, _ => none
  | m + 1, n9, v1, n10, v2, v3, v4, v5, v6, v7, l5 =>
    chk (decide (0 ≤ (0 : Int)) && decide ((0 : Int) < l2.length)) <|
    let y1 := l2.getD ((0 : Int).toNat) []
    chk (decide (1 ≤ y1.length) && isF z3 0 y1) <|
    let y2 := decide (n10 < (asI (nthD y1 0)))
    if y2 then
     let y3 := t78 s1 n9 (3 : Int)
     chk (okR zr78 zo78 y3) <|
     let y4 := t77 s1 (asI (resC y3 1 0))
     chk (okR zr77 zo77 y4) <|
     let y5 := asS (resC y4 0 0)
     let y6 := t80 y5
     chk (okR zr80 zo80 y6) <|
     let y7 := asI (resC y4 1 0)
     let y8 := asB (resC y6 1 0)
     let y9 := (decide (y7 < (0 : Int))) || (!y8)
     if y9 then
      let y10 := asI (resC y6 0 0)
      let y11 := asS (resC y6 0 1)
      let y12 := asL (resC y3 0 0)
      q1 n9 v1 n10 y7 y5 y8 v5 y2 y9 y10 y11 y12 l5
     else
      let y13 := asL (resC y3 0 0)
      chk (decide (0 ≤ (0 : Int)) && decide ((0 : Int) < y13.length)) <|
      let y14 := y13.getD ((0 : Int).toNat) []
      chk (decide (1 ≤ y14.length) && isF z3 0 y14) <|
      chk (decide (0 ≤ (1 : Int)) && decide ((1 : Int) < y13.length)) <|
      let y15 := y13.getD ((1 : Int).toNat) []
      chk (decide (1 ≤ y15.length) && isF z3 0 y15) <|
      chk (decide (0 ≤ (2 : Int)) && decide ((2 : Int) < y13.length)) <|
      let y16 := y13.getD ((2 : Int).toNat) []
      chk (decide (1 ≤ y16.length) && isF z3 0 y16) <|
      let y17 := asI (resC y6 0 0)
      let y18 := asS (resC y6 0 1)
      let y19 := ([[.i .i64 (asI (nthD y14 0)), .i .i64 (asI (nthD y15 0)), .i .i64 (asI (nthD y16 0)), .i .i64 y17, .s y18]] : Rw)
      chk ((flatR 5 y19) && decide (l5.length + y19.length ≤ lim)) <|
      la36o5 t30 t77 t78 t79 t80 s1 b1 s2 n1 b2 b3 b4 n2 n3 n4 n5 n6 n7 n8 l1 l2 l3 l4 q1 q2 m y7 (keepV [128, 256, 512, 640, 1920, 5952, 32770, 40964, 40965] (killV 40965 v1)) (w64 (n10 + (1 : Int))) (.d (.i .i64 y7)) (.d (.s y5)) (.d (.b y8)) (keepV [128, 256, 512, 640, 1920, 5952, 32770, 40964, 40965] (killV 40965 v5)) (.d (.b y2)) (.d (.b y9)) (l5 ++ y19)
    else
     q2 n9 (keepV [128, 256, 512, 640, 1920, 5952, 32770, 40964, 40965] v1) n10 (keepV [128, 256, 512, 640, 1920, 5952, 32770, 40964, 40965] v2) (keepV [128, 256, 512, 640, 1920, 5952, 32770, 40964, 40965] v3) (keepV [128, 256, 512, 640, 1920, 5952, 32770, 40964, 40965] v4) (keepV [128, 256, 512, 640, 1920, 5952, 32770, 40964, 40965] v5) y2 (keepV [128, 256, 512, 640, 1920, 5952, 32770, 40964, 40965] v7) l5
def la36o1 (t30 : Y30) (t77 : Y77) (t78 : Y78) (t79 : Y79) (t80 : Y80) (s1 : ByteArray) (b1 : Bool) (s2 : ByteArray) (b2 : Bool) (n1 n2 n3 n4 n5 n6 n7 : Int) (l1 l2 : Rw) (q1 : Int → Int → Int → Bool → Bool → Rw → Rw → Rs) (q2 : Int → Int → SV → Bool → SV → Rw → Rs) : Nat → Int → Int → SV → SV → SV → Rw → Rs
  | 0, _, _, _, _, _, _ => none
  | m + 1, n8, n9, v1, v2, v3, l3 =>
    chk (decide (0 ≤ (1 : Int)) && decide ((1 : Int) < l1.length)) <|
    let y1 := l1.getD ((1 : Int).toNat) []
    chk (decide (1 ≤ y1.length) && isF z3 0 y1) <|
    let y2 := decide (n9 < (asI (nthD y1 0)))
    if y2 then
     let y3 := t78 s1 n8 (5 : Int)
     chk (okR zr78 zo78 y3) <|
     let y4 := asI (resC y3 1 0)
     let y5 := decide (y4 < (0 : Int))
     if y5 then
      let y6 := asL (resC y3 0 0)
      q1 n8 n9 y4 y2 y5 y6 l3
     else
      let y7 := asL (resC y3 0 0)
      chk (decide (0 ≤ (0 : Int)) && decide ((0 : Int) < y7.length)) <|
      let y8 := y7.getD ((0 : Int).toNat) []
      chk (decide (1 ≤ y8.length) && isF z3 0 y8) <|
      chk (decide (0 ≤ (1 : Int)) && decide ((1 : Int) < y7.length)) <|
      let y9 := y7.getD ((1 : Int).toNat) []
      chk (decide (1 ≤ y9.length) && isF z3 0 y9) <|
      chk (decide (0 ≤ (2 : Int)) && decide ((2 : Int) < y7.length)) <|
      let y10 := y7.getD ((2 : Int).toNat) []
      chk (decide (1 ≤ y10.length) && isF z3 0 y10) <|
      chk (decide (0 ≤ (3 : Int)) && decide ((3 : Int) < y7.length)) <|
      let y11 := y7.getD ((3 : Int).toNat) []
      chk (decide (1 ≤ y11.length) && isF z3 0 y11) <|
      chk (decide (0 ≤ (4 : Int)) && decide ((4 : Int) < y7.length)) <|
      let y12 := y7.getD ((4 : Int).toNat) []
      chk (decide (1 ≤ y12.length) && isF z3 0 y12) <|
      let y13 := ([[.i .i64 (asI (nthD y8 0)), .i .i64 (asI (nthD y9 0)), .i .i64 (asI (nthD y10 0)), .i .i64 (asI (nthD y11 0)), .i .i64 (asI (nthD y12 0))]] : Rw)
      chk ((flatR 5 y13) && decide (l3.length + y13.length ≤ lim)) <|
      la36o1 t30 t77 t78 t79 t80 s1 b1 s2 b2 n1 n2 n3 n4 n5 n6 n7 l1 l2 q1 q2 m y4 (w64 (n9 + (1 : Int))) (.d (.i .i64 y4)) (.d (.b y2)) (.d (.b y5)) (l3 ++ y13)
    else
     q2 n8 n9 (keepV [128, 256, 512, 640, 1920, 32770, 40964] v1) y2 (keepV [128, 256, 512, 640, 1920, 32770, 40964] v3) l3
def ta36 (t30 : Y30) (t77 : Y77) (t78 : Y78) (t79 : Y79) (t80 : Y80) (s1 : ByteArray) : Rs :=
  let y1 := t77 s1 (0 : Int)
  chk (okR zr77 zo77 y1) <|
  let y2 := t78 s1 (asI (resC y1 1 0)) (2 : Int)
  chk (okR zr78 zo78 y2) <|
  let y3 := asL (resC y2 0 0)
  let y4 := asI (resC y2 1 0)
  let y5 := decide (y4 < (0 : Int))
  chk ((decide (0 ≤ (1 : Int)) && decide ((1 : Int) < y3.length)) || !(!y5)) <|
  let y6 := y3.getD ((1 : Int).toNat) []
  chk ((decide (1 ≤ y6.length) && isF z3 0 y6) || !(!y5)) <|
  let y7 := y5 || (decide ((asI (nthD y6 0)) > (20 : Int)))
  if y7 then
   some ([.agg [.i .i64 (0 : Int), .l ([] : Rw), .i .i64 (0 : Int), .l ([] : Rw), .l ([] : Rw)], .one (.b false)], [])
  else
   let y8 := asS (resC y1 0 0)
   let y9 := t79 y8
   chk (okR zr79 zo79 y9) <|
   chk (decide (0 ≤ (0 : Int)) && decide ((0 : Int) < y3.length)) <|
   let y10 := y3.getD ((0 : Int).toNat) []
   chk (decide (1 ≤ y10.length) && isF z3 0 y10) <|
   let y11 := asI (resC y9 0 0)
   let y12 := asI (nthD y10 0)
   let y13 := asL (resC y9 0 1)
   la36o1 t30 t77 t78 t79 t80 s1 false y8 y7 (0 : Int) (0 : Int) (0 : Int) (0 : Int) y11 y11 y12 y3 y13
    (fun (n1 n2 n3 : Int) (b1 b2 : Bool) (l1 l2 : Rw) =>
     some ([.agg [.i .i64 (0 : Int), .l ([] : Rw), .i .i64 (0 : Int), .l ([] : Rw), .l ([] : Rw)], .one (.b false)], []))
    (fun (n4 n5 : Int) (v1 : SV) (b3 : Bool) (v2 : SV) (l3 : Rw) =>
     let y14 := t78 s1 n4 (1 : Int)
     chk (okR zr78 zo78 y14) <|
     let y15 := asL (resC y14 0 0)
     let y16 := asI (resC y14 1 0)
     let y17 := decide (y16 < (0 : Int))
     chk ((decide (0 ≤ (0 : Int)) && decide ((0 : Int) < y15.length)) || !(!y17)) <|
     let y18 := y15.getD ((0 : Int).toNat) []
     chk ((decide (1 ≤ y18.length) && isF z3 0 y18) || !(!y17)) <|
     let y19 := y17 || (decide ((asI (nthD y18 0)) > (3 : Int)))
     if y19 then
      some ([.agg [.i .i64 (0 : Int), .l ([] : Rw), .i .i64 (0 : Int), .l ([] : Rw), .l ([] : Rw)], .one (.b false)], [])
     else
      la36o5 t30 t77 t78 t79 t80 s1 false y8 n5 y7 b3 y19 (0 : Int) (0 : Int) (0 : Int) (0 : Int) y11 y11 y12 y3 y15 y13 l3
       (fun (n6 : Int) (v3 : SV) (n7 n8 : Int) (s2 : ByteArray) (b4 : Bool) (v4 : SV) (b5 b6 : Bool) (n9 : Int) (s3 : ByteArray) (l4 l5 : Rw) =>
        some ([.agg [.i .i64 (0 : Int), .l ([] : Rw), .i .i64 (0 : Int), .l ([] : Rw), .l ([] : Rw)], .one (.b false)], []))
       (fun (n10 : Int) (v5 : SV) (n11 : Int) (v6 v7 v8 v9 : SV) (b7 : Bool) (v10 : SV) (l6 : Rw) =>
        let y20 := t30 y11 y13 y12 l3 l6
        chk (okR zr30 zo30 y20) <|
        if !((asS (resC y20 0 0)).toList == s1.toList) then
         some ([.agg [.i .i64 (0 : Int), .l ([] : Rw), .i .i64 (0 : Int), .l ([] : Rw), .l ([] : Rw)], .one (.b false)], [])
        else
         some ([.agg [.i .i64 y11, .l y13, .i .i64 y12, .l l3, .l l6], .one (.b true)], [])) KK y16 v1 (0 : Int) SV.undef SV.undef SV.undef v2 SV.undef SV.undef ([] : Rw)) KK y4 (0 : Int) SV.undef SV.undef SV.undef ([] : Rw)
def t36 : Y36 := ta36 t30 t77 t78 t79 t80
def zr36 : List DV := [.agg [.i .i64 0, .l [], .i .i64 0, .l [], .l []], .one (.b false)]
def zo36 : Rw := []
def A36 : List TA := [.one (.s)]
abbrev Y27 := Rw → Rs
def la27o1 (t23 : Y23) (l1 : Rw) (b1 b2 : Bool) (q1 : Int → Bool → Bool → Rs) (q2 : Int → Bool → SV → Rs) : Nat → Int → SV → SV → Rs
  | 0, _, _, _ => none
  | m + 1, n1, v1, v2 =>
    let y1 := decide (n1 < (l1.length : Int))
    if y1 then
     let y2 := l1.getD n1.toNat []
     chk (decide (0 ≤ n1) && decide (n1 < l1.length) && isRow z28 y2) <|
     let y3 := t23 (asI (nthD y2 0)) (asL (nthD y2 1)) (asI (nthD y2 2)) (asL (nthD y2 3)) (asL (nthD y2 4))
     chk (okR zr23 zo23 y3) <|
     let y4 := !(asB (resC y3 0 0))
     if y4 then
      q1 n1 y1 y4
     else
      la27o1 t23 l1 b1 b2 q1 q2 m (w64 (n1 + (1 : Int))) (.d (.b y1)) (.d (.b y4))
    else
     q2 n1 y1 (keepV [] v2)
def ta27 (t23 : Y23) (l1 : Rw) : Rs :=
  let y1 := (l1.length : Int) != (3 : Int)
  if y1 then
   some ([.one (.b false)], [])
  else
   la27o1 t23 l1 false y1
    (fun (n1 : Int) (b1 b2 : Bool) =>
     some ([.one (.b false)], []))
    (fun (n2 : Int) (b3 : Bool) (v1 : SV) =>
     some ([.one (.b true)], [])) KK (0 : Int) SV.undef SV.undef
def t27 : Y27 := ta27 t23
def zr27 : List DV := [.one (.b false)]
def zo27 : Rw := []
def A27 : List TA := [.one (.l)]
abbrev Y32 := Rw → Rs
def la32o1 (t27 : Y27) (t30 : Y30) (t67 : Y67) (l1 : Rw) (s1 : ByteArray) (b1 : Bool) (q1 : ByteArray → Int → Bool → Rs) : Nat → ByteArray → Int → SV → Rs
  | 0, _, _, _ => none
  | m + 1, s2, n1, v1 =>
    let y1 := decide (n1 < (l1.length : Int))
    if y1 then
     let y2 := l1.getD n1.toNat []
     chk (decide (0 ≤ n1) && decide (n1 < l1.length) && isRow z28 y2) <|
     let y3 := t30 (asI (nthD y2 0)) (asL (nthD y2 1)) (asI (nthD y2 2)) (asL (nthD y2 3)) (asL (nthD y2 4))
     chk (okR zr30 zo30 y3) <|
     let y4 := t67 (asS (resC y3 0 0))
     chk (okR zr67 zo67 y4) <|
     let y5 := asS (resC y4 0 0)
     chk (decide (s2.size + y5.size ≤ lim)) <|
     la32o1 t27 t30 t67 l1 s1 b1 q1 m (s2 ++ y5) (w64 (n1 + (1 : Int))) (.d (.b y1))
    else
     q1 s2 n1 y1
def ta32 (t27 : Y27) (t30 : Y30) (t67 : Y67) (l1 : Rw) : Rs :=
  chk (okR zr27 zo27 (t27 l1)) <|
  let y1 := !(asB (resC (t27 l1) 0 0))
  if y1 then
   some ([.one (.s (⟨#[]⟩ : ByteArray))], [])
  else
   la32o1 t27 t30 t67 l1 (⟨#[]⟩ : ByteArray) y1
    (fun (s1 : ByteArray) (n1 : Int) (b1 : Bool) =>
     some ([.one (.s s1)], [])) KK (⟨#[]⟩ : ByteArray) (0 : Int) SV.undef
def t32 : Y32 := ta32 t27 t30 t67
def zr32 : List DV := [.one (.s ⟨#[]⟩)]
def zo32 : Rw := []
def A32 : List TA := [.one (.l)]
abbrev Y38 := ByteArray → Rs
def la38o0 (t32 : Y32) (t36 : Y36) (t77 : Y77) (s1 : ByteArray) (b1 : Bool) (q1 : Int → Int → ByteArray → Int → Bool → Bool → Bool → Int → Int → Rw → Rw → Rw → Rw → Rw → Rs) (q2 : Int → Int → SV → SV → SV → Bool → SV → Rw → Rs) : Nat → Int → Int → SV → SV → SV → SV → SV → Rw → Rs
  | 0, _, _, _, _, _, _, _, _ => none
  | m + 1, n1, n2, v1, v2, v3, v4, v5, l1 =>
    let y1 := decide (n2 < (3 : Int))
    if y1 then
     chk (okR zr77 zo77 (t77 s1 n1)) <|
     let y2 := asS (resC (t77 s1 n1) 0 0)
     let y3 := t36 y2
     chk (okR zr36 zo36 y3) <|
     let y4 := asI (resC (t77 s1 n1) 1 0)
     let y5 := asB (resC y3 1 0)
     let y6 := (decide (y4 < (0 : Int))) || (!y5)
     if y6 then
      let y7 := asI (resC y3 0 0)
      let y8 := asI (resC y3 0 2)
      let y9 := asL (resC y3 0 1)
      let y10 := asL (resC y3 0 3)
      let y11 := asL (resC y3 0 4)
      q1 n1 n2 y2 y4 y5 y1 y6 y7 y8 l1 ([] : Rw) y9 y10 y11
     else
      let y12 := asI (resC y3 0 0)
      let y13 := asL (resC y3 0 1)
      let y14 := asI (resC y3 0 2)
      let y15 := asL (resC y3 0 3)
      let y16 := asL (resC y3 0 4)
      let y17 := ([[.i .i64 y12, .l y13, .i .i64 y14, .l y15, .l y16]] : Rw)
      chk (true && decide (l1.length + y17.length ≤ lim)) <|
      la38o0 t32 t36 t77 s1 b1 q1 q2 m y4 (w64 (n2 + (1 : Int))) (.d (.s y2)) (.d (.i .i64 y4)) (.d (.b y5)) (.d (.b y1)) (.d (.b y6)) (l1 ++ y17)
    else
     q2 n1 n2 (keepV [704] v1) (keepV [704] v2) (keepV [704] v3) y1 (keepV [704] v5) l1
def ta38 (t32 : Y32) (t36 : Y36) (t77 : Y77) (s1 : ByteArray) : Rs :=
  la38o0 t32 t36 t77 s1 false
   (fun (n1 n2 : Int) (s2 : ByteArray) (n3 : Int) (b1 b2 b3 : Bool) (n4 n5 : Int) (l1 l2 l3 l4 l5 : Rw) =>
    some ([.one (.l l2), .one (.b false)], []))
   (fun (n6 n7 : Int) (v1 v2 v3 : SV) (b4 : Bool) (v4 : SV) (l6 : Rw) =>
    let y1 := n6 != (s1.size : Int)
    chk ((okR zr32 zo32 (t32 l6)) || !(!y1)) <|
    if y1 || (!((asS (resC (t32 l6) 0 0)).toList == s1.toList)) then
     some ([.one (.l ([] : Rw)), .one (.b false)], [])
    else
     some ([.one (.l l6), .one (.b true)], [])) KK (0 : Int) (0 : Int) SV.undef SV.undef SV.undef SV.undef SV.undef ([] : Rw)
def t38 : Y38 := ta38 t32 t36 t77
def zr38 : List DV := [.one (.l []), .one (.b false)]
def zo38 : Rw := []
def A38 : List TA := [.one (.s)]
abbrev Y136 := ByteArray → Rs
def l136o0 (s1 : ByteArray) (n1 n2 : Int) (q1 : Int → Int → Int → Int → Int → Bool → Bool → Bool → Rs) (q2 : Int → Int → SV → Bool → SV → Rs) : Nat → Int → Int → SV → SV → SV → Rs
  | 0, _, _, _, _, _ => none
  | m + 1, n3, n4, v1, v2, v3 =>
    let y1 := (decide (n4 < (s1.size : Int))) && (decide (n4 < (7 : Int)))
    if y1 then
     chk (decide (0 ≤ n4 ∧ n4 < s1.size)) <|
     let y2 := w64 ((7 : Int) * n4)
     chk (decide (0 ≤ y2)) <|
     let y3 := w64 ((s1.get! n4.toNat).toNat)
     let y4 := decide (y3 > (127 : Int))
     if y4 then
      let y5 := bitOr .i64 n3 (w64 ((bitAnd .i64 y3 (127 : Int)) * 2 ^ (min y2.toNat (IntKind.bits .i64))))
      l136o0 s1 n1 n2 q1 q2 m y5 (w64 (n4 + (1 : Int))) (.d (.i .i64 y3)) (.d (.b y1)) (.d (.b y4))
     else
      let y6 := (y3 == (0 : Int)) && (decide (n4 > (0 : Int)))
      if y6 then
       let y7 := bitOr .i64 n3 (w64 ((bitAnd .i64 y3 (127 : Int)) * 2 ^ (min y2.toNat (IntKind.bits .i64))))
       q1 (0 : Int) (0 : Int) y7 n4 y3 y1 y4 y6
      else
       let y8 := bitOr .i64 n3 (w64 ((bitAnd .i64 y3 (127 : Int)) * 2 ^ (min y2.toNat (IntKind.bits .i64))))
       q1 y8 (w64 (n4 + (1 : Int))) y8 n4 y3 y1 y4 y6
    else
     q2 n3 n4 (keepV [] v1) y1 (keepV [] v3)
def t136 (s1 : ByteArray) : Rs :=
  l136o0 s1 (0 : Int) (0 : Int)
   (fun (n1 n2 n3 n4 n5 : Int) (b1 b2 b3 : Bool) =>
    some ([.one (.i .i64 n1), .one (.i .i64 n2)], []))
   (fun (n6 n7 : Int) (v1 : SV) (b4 : Bool) (v2 : SV) =>
    some ([.one (.i .i64 (0 : Int)), .one (.i .i64 (0 : Int))], [])) KK (0 : Int) (0 : Int) SV.undef SV.undef SV.undef
def zr136 : List DV := [.one (.i .i64 0), .one (.i .i64 0)]
def zo136 : Rw := []
def A136 : List TA := [.one (.s)]
abbrev Y116 := ByteArray → Bool → Rs
def ta116 (t136 : Y136) (s1 : ByteArray) (b1 : Bool) : Rs :=
  chk (okR zr136 zo136 (t136 s1)) <|
  let y1 := asI (resC (t136 s1) 1 0)
  if b1 || (y1 == (0 : Int)) then
   some ([.one (.i .i64 (0 : Int))], [[.s s1, .b true]])
  else
   chk (decide (0 ≤ y1 ∧ y1 ≤ s1.size)) <|
   some ([.one (.i .i64 (asI (resC (t136 s1) 0 0)))], [[.s (s1.extract y1.toNat s1.size), .b b1]])
def t116 : Y116 := ta116 t136
def zr116 : List DV := [.one (.i .i64 0)]
def zo116 : Rw := [[.s ⟨#[]⟩, .b false]]
def A116 : List TA := [.ptr [.s, .b]]
abbrev Y119 := ByteArray → Bool → Int → Rs
def t119 (s1 : ByteArray) (b1 : Bool) (n1 : Int) : Rs :=
  if b1 || (decide (n1 > (s1.size : Int))) then
   some ([.one (.s (⟨#[]⟩ : ByteArray))], [[.s s1, .b true]])
  else
   chk (decide (0 ≤ (0 : Int) ∧ (0 : Int) ≤ n1 ∧ n1 ≤ s1.size)) <|
   chk (decide (0 ≤ n1 ∧ n1 ≤ s1.size)) <|
   some ([.one (.s (s1.extract (0 : Int).toNat n1.toNat))], [[.s (s1.extract n1.toNat s1.size), .b b1]])
def zr119 : List DV := [.one (.s ⟨#[]⟩)]
def zo119 : Rw := [[.s ⟨#[]⟩, .b false]]
def A119 : List TA := [.ptr [.s, .b], .one (.i .i64)]
abbrev Y82 := ByteArray → Bool → Rs
def ta82 (t116 : Y116) (t119 : Y119) (s1 : ByteArray) (b1 : Bool) : Rs :=
  chk (okR zr116 zo116 (t116 s1 b1)) <|
  let y1 := t119 (asS (outC (t116 s1 b1) 0 0)) (asB (outC (t116 s1 b1) 0 1)) (asI (resC (t116 s1 b1) 0 0))
  chk (okR zr119 zo119 y1) <|
  some ([.one (.s (asS (resC y1 0 0)))], [[.s (asS (outC y1 0 0)), .b (asB (outC y1 0 1))]])
def t82 : Y82 := ta82 t116 t119
def zr82 : List DV := [.one (.s ⟨#[]⟩)]
def zo82 : Rw := [[.s ⟨#[]⟩, .b false]]
def A82 : List TA := [.ptr [.s, .b]]
abbrev Y117 := ByteArray → Bool → Int → Rs
def ta117 (t116 : Y116) (s1 : ByteArray) (b1 : Bool) (n1 : Int) : Rs :=
  chk (okR zr116 zo116 (t116 s1 b1)) <|
  let y1 := asI (resC (t116 s1 b1) 0 0)
  if decide (y1 > n1) then
   let y2 := asS (outC (t116 s1 b1) 0 0)
   some ([.one (.i .i64 (0 : Int))], [[.s y2, .b true]])
  else
   let y3 := asS (outC (t116 s1 b1) 0 0)
   some ([.one (.i .i64 y1)], [[.s y3, .b (asB (outC (t116 s1 b1) 0 1))]])
def t117 : Y117 := ta117 t116
def zr117 : List DV := [.one (.i .i64 0)]
def zo117 : Rw := [[.s ⟨#[]⟩, .b false]]
def A117 : List TA := [.ptr [.s, .b], .one (.i .i64)]
abbrev Y115 := ByteArray → Bool → Rs
def la115o2 (t82 : Y82) (t116 : Y116) (t117 : Y117) (n1 n2 : Int) (b1 : Bool) (n3 n4 n5 n6 n7 n8 n9 n10 : Int) (s1 : ByteArray) (n11 n12 : Int) (l1 : Rw) (q1 : Int → Bool → ByteArray → Bool → Rw → Rs) : Nat → Int → SV → ByteArray → Bool → Rw → Rs
  | 0, _, _, _, _, _ => none
  | m + 1, n13, v1, s2, b2, l2 =>
    let y1 := decide (n13 < n3)
    if y1 then
     let y2 := t82 s2 b2
     chk (okR zr82 zo82 y2) <|
     let y3 := t116 (asS (outC y2 0 0)) (asB (outC y2 0 1))
     chk (okR zr116 zo116 y3) <|
     let y4 := ([[.s (asS (resC y2 0 0)), .i .i64 (asI (resC y3 0 0))]] : Rw)
     chk ((flatR 2 y4) && decide (l2.length + y4.length ≤ lim)) <|
     la115o2 t82 t116 t117 n1 n2 b1 n3 n4 n5 n6 n7 n8 n9 n10 s1 n11 n12 l1 q1 m (w64 (n13 + (1 : Int))) (.d (.b y1)) (asS (outC y3 0 0)) (asB (outC y3 0 1)) (l2 ++ y4)
    else
     q1 n13 y1 s2 b2 l2
def la115o0 (t82 : Y82) (t116 : Y116) (t117 : Y117) (n1 n2 n3 : Int) (q1 : Int → Bool → SV → SV → SV → ByteArray → Bool → Rw → Rs) : Nat → Int → SV → SV → SV → SV → ByteArray → Bool → Rw → Rs
  | 0, _, _, _, _, _, _, _, _ => none
  | m + 1, n4, v1, v2, v3, v4, s1, b1, l1 =>
    let y1 := decide (n4 < n1)
    if y1 then
     chk (okR zr116 zo116 (t116 s1 b1)) <|
     let y2 := t116 (asS (outC (t116 s1 b1) 0 0)) (asB (outC (t116 s1 b1) 0 1))
     chk (okR zr116 zo116 y2) <|
     let y3 := t116 (asS (outC y2 0 0)) (asB (outC y2 0 1))
     chk (okR zr116 zo116 y3) <|
     let y4 := t116 (asS (outC y3 0 0)) (asB (outC y3 0 1))
     chk (okR zr116 zo116 y4) <|
     let y5 := t116 (asS (outC y4 0 0)) (asB (outC y4 0 1))
     chk (okR zr116 zo116 y5) <|
     let y6 := t116 (asS (outC y5 0 0)) (asB (outC y5 0 1))
     chk (okR zr116 zo116 y6) <|
     let y7 := t116 (asS (outC y6 0 0)) (asB (outC y6 0 1))
     chk (okR zr116 zo116 y7) <|
     let y8 := t82 (asS (outC y7 0 0)) (asB (outC y7 0 1))
     chk (okR zr82 zo82 y8) <|
     let y9 := t117 (asS (outC y8 0 0)) (asB (outC y8 0 1)) (12 : Int)
     chk (okR zr117 zo117 y9) <|
     let y10 := asI (resC y9 0 0)
     let y11 := asI (resC (t116 s1 b1) 0 0)
     let y12 := asI (resC y2 0 0)
     let y13 := asI (resC y3 0 0)
     let y14 := asI (resC y4 0 0)
     let y15 := asI (resC y5 0 0)
     let y16 := asS (resC y8 0 0)
     let y17 := asI (resC y6 0 0)
     let y18 := asI (resC y7 0 0)
     la115o2 t82 t116 t117 n1 n4 y1 y10 n2 n3 y11 y12 y13 y14 y15 y16 y17 y18 l1
      (fun (n5 : Int) (b2 : Bool) (s2 : ByteArray) (b3 : Bool) (l2 : Rw) =>
       let y19 := ([[.i .i64 y11, .i .i64 y12, .i .i64 y13, .i .i64 y14, .i .i64 y15, .s y16, .l l2, .i .i64 y17, .i .i64 y18]] : Rw)
       chk (true && decide (l1.length + y19.length ≤ lim)) <|
       la115o0 t82 t116 t117 n1 n2 n3 q1 m (w64 (n4 + (1 : Int))) (.d (.b y1)) (.d (.i .i64 y10)) (.d (.i .i64 n5)) (.d (.b b2)) s2 b3 (l1 ++ y19)) KK (0 : Int) v4 (asS (outC y9 0 0)) (asB (outC y9 0 1)) ([] : Rw)
    else
     q1 n4 y1 (keepV [0, 128, 192, 12290] v2) (keepV [0, 128, 192, 12290] v3) (keepV [0, 128, 192, 12290] v4) s1 b1 l1
def ta115 (t82 : Y82) (t116 : Y116) (t117 : Y117) (s1 : ByteArray) (b1 : Bool) : Rs :=
  chk (okR zr116 zo116 (t116 s1 b1)) <|
  let y1 := t117 (asS (outC (t116 s1 b1) 0 0)) (asB (outC (t116 s1 b1) 0 1)) (24 : Int)
  chk (okR zr117 zo117 y1) <|
  let y2 := asI (resC (t116 s1 b1) 0 0)
  la115o0 t82 t116 t117 (asI (resC y1 0 0)) (0 : Int) y2
   (fun (n1 : Int) (b2 : Bool) (v1 v2 v3 : SV) (s2 : ByteArray) (b3 : Bool) (l1 : Rw) =>
    some ([.agg [.i .i64 y2, .l l1]], [[.s s2, .b b3]])) KK (0 : Int) SV.undef SV.undef SV.undef SV.undef (asS (outC y1 0 0)) (asB (outC y1 0 1)) ([] : Rw)
def t115 : Y115 := ta115 t82 t116 t117
def zr115 : List DV := [.agg [.i .i64 0, .l []]]
def zo115 : Rw := [[.s ⟨#[]⟩, .b false]]
def A115 : List TA := [.ptr [.s, .b]]
abbrev Y63 := Int → Int → Int → Rs
def t63 (n1 n2 n3 : Int) : Rs :=
  some ([.one (.b ((decide (n1 ≥ n2)) && (decide (n1 ≤ n3))))], [])
def zr63 : List DV := [.one (.b false)]
def zo63 : Rw := []
def A63 : List TA := [.one (.i .i64), .one (.i .i64), .one (.i .i64)]
abbrev Y64 := Int → ByteArray → Rs
def ta64 (t63 : Y63) (n1 : Int) (s1 : ByteArray) : Rs :=
  let y1 := t63 n1 (0 : Int) (200 : Int)
  chk (okR zr63 zo63 y1) <|
  some ([.one (.b ((asB (resC y1 0 0)) && (decide ((s1.size : Int) ≤ (400 : Int)))))], [])
def t64 : Y64 := ta64 t63
def zr64 : List DV := [.one (.b false)]
def zo64 : Rw := []
def A64 : List TA := [.agg [.i .i64, .s]]
abbrev Y118 := ByteArray → Rs
def ta118 (t64 : Y64) (t136 : Y136) (s1 : ByteArray) : Rs :=
  chk (okR zr136 zo136 (t136 s1)) <|
  let y1 := asI (resC (t136 s1) 1 0)
  chk (decide (0 ≤ y1 ∧ y1 ≤ s1.size)) <|
  let y2 := asI (resC (t136 s1) 0 0)
  let y3 := s1.extract y1.toNat s1.size
  let y4 := t64 y2 y3
  let y5 := y1 == (0 : Int)
  chk ((okR zr64 zo64 y4) || !(!y5)) <|
  if y5 || (!(asB (resC y4 0 0))) then
   some ([.agg [.i .i64 (0 : Int), .s (⟨#[]⟩ : ByteArray)], .one (.b false)], [])
  else
   some ([.agg [.i .i64 y2, .s y3], .one (.b true)], [])
def t118 : Y118 := ta118 t64 t136
def zr118 : List DV := [.agg [.i .i64 0, .s ⟨#[]⟩], .one (.b false)]
def zo118 : Rw := []
def A118 : List TA := [.one (.s)]
abbrev Y81 := ByteArray → Bool → Rs
def la81o2 (t82 : Y82) (t115 : Y115) (t116 : Y116) (t117 : Y117) (t118 : Y118) (n1 n2 : Int) (b1 : Bool) (n3 n4 n5 n6 n7 : Int) (s1 : ByteArray) (b2 : Bool) (l1 l2 : Rw) (q1 : SV → Int → Bool → ByteArray → Bool → Rw → Rs) : Nat → SV → Int → SV → ByteArray → Bool → Rw → Rs
  | 0, _, _, _, _, _, _ => none
  | m + 1, v1, n8, v2, s2, b3, l3 =>
    let y1 := decide (n8 < n3)
    if y1 then
     chk (okR zr116 zo116 (t116 s2 b3)) <|
     let y2 := t116 (asS (outC (t116 s2 b3) 0 0)) (asB (outC (t116 s2 b3) 0 1))
     chk (okR zr116 zo116 y2) <|
     let y3 := t116 (asS (outC y2 0 0)) (asB (outC y2 0 1))
     chk (okR zr116 zo116 y3) <|
     let y4 := t82 (asS (outC y3 0 0)) (asB (outC y3 0 1))
     chk (okR zr82 zo82 y4) <|
     let y5 := t118 (asS (resC y4 0 0))
     chk (okR zr118 zo118 y5) <|
     let y6 := ([[.i .i64 (asI (resC (t116 s2 b3) 0 0)), .i .i64 (asI (resC y2 0 0)), .i .i64 (asI (resC y3 0 0)), .i .i64 (asI (resC y5 0 0)), .s (asS (resC y5 0 1))]] : Rw)
     chk ((flatR 5 y6) && decide (l3.length + y6.length ≤ lim)) <|
     let y7 := asB (resC y5 1 0)
     la81o2 t82 t115 t116 t117 t118 n1 n2 b1 n3 n4 n5 n6 n7 s1 b2 l1 l2 q1 m (.d (.b y7)) (w64 (n8 + (1 : Int))) (.d (.b y1)) (asS (outC y4 0 0)) ((asB (outC y4 0 1)) || (!y7)) (l3 ++ y6)
    else
     q1 (keepV [0, 128, 192, 832, 12290, 12292, 12293] v1) n8 y1 s2 b3 l3
def la81o0 (t82 : Y82) (t115 : Y115) (t116 : Y116) (t117 : Y117) (t118 : Y118) (n1 n2 n3 n4 n5 : Int) (s1 : ByteArray) (b1 : Bool) (l1 : Rw) (q1 : Int → Bool → ByteArray → Bool → Rw → Rs) : Nat → Int → SV → ByteArray → Bool → Rw → Rs
  | 0, _, _, _, _, _ => none
  | m + 1, n6, v1, s2, b2, l2 =>
    let y1 := decide (n6 < n1)
    if y1 then
     chk (okR zr116 zo116 (t116 s2 b2)) <|
     let y2 := t116 (asS (outC (t116 s2 b2) 0 0)) (asB (outC (t116 s2 b2) 0 1))
     chk (okR zr116 zo116 y2) <|
     let y3 := t116 (asS (outC y2 0 0)) (asB (outC y2 0 1))
     chk (okR zr116 zo116 y3) <|
     let y4 := t116 (asS (outC y3 0 0)) (asB (outC y3 0 1))
     chk (okR zr116 zo116 y4) <|
     let y5 := t116 (asS (outC y4 0 0)) (asB (outC y4 0 1))
     chk (okR zr116 zo116 y5) <|
     let y6 := ([[.i .i64 (asI (resC (t116 s2 b2) 0 0)), .i .i64 (asI (resC y2 0 0)), .i .i64 (asI (resC y3 0 0)), .i .i64 (asI (resC y4 0 0)), .i .i64 (asI (resC y5 0 0))]] : Rw)
     chk ((flatR 5 y6) && decide (l2.length + y6.length ≤ lim)) <|
     la81o0 t82 t115 t116 t117 t118 n1 n2 n3 n4 n5 s1 b1 l1 q1 m (w64 (n6 + (1 : Int))) (.d (.b y1)) (asS (outC y5 0 0)) (asB (outC y5 0 1)) (l2 ++ y6)
    else
     q1 n6 y1 s2 b2 l2
def ta81 (t82 : Y82) (t115 : Y115) (t116 : Y116) (t117 : Y117) (t118 : Y118) (s1 : ByteArray) (b1 : Bool) : Rs :=
  chk (okR zr82 zo82 (t82 s1 b1)) <|
  let y1 := t115 (asS (resC (t82 s1 b1) 0 0)) false
  chk (okR zr115 zo115 y1) <|
  let y2 := asB (outC y1 0 1)
  let y3 := asS (outC y1 0 0)
  let y4 := t116 (asS (outC (t82 s1 b1) 0 0)) (((asB (outC (t82 s1 b1) 0 1)) || y2) || (!(y3.toList == (⟨#[]⟩ : ByteArray).toList)))
  chk (okR zr116 zo116 y4) <|
  let y5 := t117 (asS (outC y4 0 0)) (asB (outC y4 0 1)) (20 : Int)
  chk (okR zr117 zo117 y5) <|
  let y6 := asI (resC y5 0 0)
  let y7 := asI (resC y1 0 0)
  let y8 := asI (resC y4 0 0)
  let y9 := asL (resC y1 0 1)
  la81o0 t82 t115 t116 t117 t118 y6 (0 : Int) (0 : Int) y7 y8 y3 y2 y9
   (fun (n1 : Int) (b2 : Bool) (s2 : ByteArray) (b3 : Bool) (l1 : Rw) =>
    let y10 := t117 s2 b3 (3 : Int)
    chk (okR zr117 zo117 y10) <|
    la81o2 t82 t115 t116 t117 t118 y6 n1 b2 (asI (resC y10 0 0)) (0 : Int) (0 : Int) y7 y8 y3 y2 y9 l1
     (fun (v1 : SV) (n2 : Int) (b4 : Bool) (s3 : ByteArray) (b5 : Bool) (l2 : Rw) =>
      some ([.agg [.i .i64 y7, .l y9, .i .i64 y8, .l l1, .l l2]], [[.s s3, .b b5]])) KK SV.undef (0 : Int) SV.undef (asS (outC y10 0 0)) (asB (outC y10 0 1)) ([] : Rw)) KK (0 : Int) SV.undef (asS (outC y5 0 0)) (asB (outC y5 0 1)) ([] : Rw)
def t81 : Y81 := ta81 t82 t115 t116 t117 t118
def zr81 : List DV := [.agg [.i .i64 0, .l [], .i .i64 0, .l [], .l []]]
def zo81 : Rw := [[.s ⟨#[]⟩, .b false]]
def A81 : List TA := [.ptr [.s, .b]]
abbrev Y65 := Rw → Rs
def la65o0 (t63 : Y63) (l1 : Rw) (b1 : Bool) (l2 : Rw) (n1 : Int) (q1 : Int → Bool → Bool → Int → Int → Int → Int → Int → Rs) (q2 : SV → Int → Bool → SV → Rs) : Nat → SV → Int → SV → SV → Rs
  | 0, _, _, _, _ => none
  | m + 1, v1, n2, v2, v3 =>
    let y1 := decide (n2 < n1)
    if y1 then
     let y2 := l2.getD n2.toNat []
     chk (decide (0 ≤ n2) && decide (n2 < l2.length) && isRow z90 y2) <|
     let y3 := asI (nthD y2 0)
     let y4 := t63 y3 (1 : Int) (100000 : Int)
     chk (okR zr63 zo63 y4) <|
     let y5 := w64 (n2 - (1 : Int))
     let y6 := l1.getD y5.toNat []
     let y7 := !(asB (resC y4 0 0))
     let y8 := decide (n2 > (0 : Int))
     chk ((decide (0 ≤ y5) && decide (y5 < l1.length) && isRow z90 y6) || !((!y7) && y8)) <|
     let y9 := asI (nthD y2 1)
     let y10 := t63 y9 (1 : Int) (3 : Int)
     let y11 := y7 || (y8 && (decide ((asI (nthD y6 0)) > y3)))
     chk ((okR zr63 zo63 y10) || !(!y11)) <|
     let y12 := asI (nthD y2 2)
     let y13 := t63 y12 (1 : Int) (1000000 : Int)
     let y14 := y11 || (!(asB (resC y10 0 0)))
     chk ((okR zr63 zo63 y13) || !(!y14)) <|
     let y15 := asI (nthD y2 3)
     let y16 := t63 y15 (1 : Int) (22 : Int)
     let y17 := y14 || (!(asB (resC y13 0 0)))
     chk ((okR zr63 zo63 y16) || !(!y17)) <|
     let y18 := asI (nthD y2 4)
     let y19 := t63 y18 (0 : Int) (200 : Int)
     let y20 := y17 || (!(asB (resC y16 0 0)))
     chk ((okR zr63 zo63 y19) || !(!y20)) <|
     let y21 := y20 || (!(asB (resC y19 0 0)))
     if y21 then
      q1 n2 y1 y21 y3 y9 y12 y15 y18
     else
      la65o0 t63 l1 b1 l2 n1 q1 q2 m (.d (.i .i64 n2)) (w64 (n2 + (1 : Int))) (.d (.b y1)) (.d (.b y21))
    else
     q2 (keepV [] v1) n2 y1 (keepV [] v3)
def ta65 (t63 : Y63) (l1 : Rw) : Rs :=
  la65o0 t63 l1 false l1 (l1.length : Int)
   (fun (n1 : Int) (b1 b2 : Bool) (n2 n3 n4 n5 n6 : Int) =>
    some ([.one (.b false)], []))
   (fun (v1 : SV) (n7 : Int) (b3 : Bool) (v2 : SV) =>
    some ([.one (.b (decide ((l1.length : Int) ≤ (20 : Int))))], [])) KK SV.undef (0 : Int) SV.undef SV.undef
def t65 : Y65 := ta65 t63
def zr65 : List DV := [.one (.b false)]
def zo65 : Rw := []
def A65 : List TA := [.one (.l)]
abbrev Y141 := Int → Rs
def t141 (n1 : Int) : Rs :=
  some ([.one (.b ((((((decide (n1 ≥ (97 : Int))) && (decide (n1 ≤ (122 : Int)))) || ((decide (n1 ≥ (48 : Int))) && (decide (n1 ≤ (57 : Int))))) || (n1 == (46 : Int))) || (n1 == (95 : Int))) || (n1 == (45 : Int))))], [])
def zr141 : List DV := [.one (.b false)]
def zo141 : Rw := []
def A141 : List TA := [.one (.i .u8)]
abbrev Y130 := ByteArray → Rs
def la130o0 (t63 : Y63) (t141 : Y141) (s1 : ByteArray) (b1 : Bool) (n1 : Int) (q1 : Int → Bool → Bool → Rs) (q2 : SV → Int → Bool → SV → Rs) : Nat → SV → Int → SV → SV → Rs
  | 0, _, _, _, _ => none
  | m + 1, v1, n2, v2, v3 =>
    let y1 := decide (n2 < n1)
    if y1 then
     chk (decide (0 ≤ n2 ∧ n2 < s1.size)) <|
     let y2 := ((s1.get! n2.toNat).toNat) != (47 : Int)
     chk ((decide (0 ≤ n2 ∧ n2 < s1.size)) || !y2) <|
     let y3 := t141 ((s1.get! n2.toNat).toNat)
     chk ((okR zr141 zo141 y3) || !y2) <|
     let y4 := y2 && (!(asB (resC y3 0 0)))
     if y4 then
      q1 n2 y1 y4
     else
      la130o0 t63 t141 s1 b1 n1 q1 q2 m (.d (.i .i64 n2)) (w64 (n2 + (1 : Int))) (.d (.b y1)) (.d (.b y4))
    else
     q2 (keepV [] v1) n2 y1 (keepV [] v3)
def ta130 (t63 : Y63) (t141 : Y141) (s1 : ByteArray) : Rs :=
  la130o0 t63 t141 s1 false (s1.size : Int)
   (fun (n1 : Int) (b1 b2 : Bool) =>
    some ([.one (.b false)], []))
   (fun (v1 : SV) (n2 : Int) (b3 : Bool) (v2 : SV) =>
    let y1 := t63 (s1.size : Int) (1 : Int) (60 : Int)
    chk (okR zr63 zo63 y1) <|
    some ([.one (.b (asB (resC y1 0 0)))], [])) KK SV.undef (0 : Int) SV.undef SV.undef
def t130 : Y130 := ta130 t63 t141
def zr130 : List DV := [.one (.b false)]
def zo130 : Rw := []
def A130 : List TA := [.one (.s)]
abbrev Y142 := ByteArray → Rs
def la142o0 (t63 : Y63) (t141 : Y141) (s1 : ByteArray) (b1 : Bool) (n1 : Int) (q1 : Int → Bool → Bool → Rs) (q2 : SV → Int → Bool → SV → Rs) : Nat → SV → Int → SV → SV → Rs
  | 0, _, _, _, _ => none
  | m + 1, v1, n2, v2, v3 =>
    let y1 := decide (n2 < n1)
    if y1 then
     chk (decide (0 ≤ n2 ∧ n2 < s1.size)) <|
     let y2 := t141 ((s1.get! n2.toNat).toNat)
     chk (okR zr141 zo141 y2) <|
     let y3 := !(asB (resC y2 0 0))
     if y3 then
      q1 n2 y1 y3
     else
      la142o0 t63 t141 s1 b1 n1 q1 q2 m (.d (.i .i64 n2)) (w64 (n2 + (1 : Int))) (.d (.b y1)) (.d (.b y3))
    else
     q2 (keepV [] v1) n2 y1 (keepV [] v3)
def ta142 (t63 : Y63) (t141 : Y141) (s1 : ByteArray) : Rs :=
  la142o0 t63 t141 s1 false (s1.size : Int)
   (fun (n1 : Int) (b1 b2 : Bool) =>
    some ([.one (.b false)], []))
   (fun (v1 : SV) (n2 : Int) (b3 : Bool) (v2 : SV) =>
    let y1 := t63 (s1.size : Int) (1 : Int) (8 : Int)
    chk (okR zr63 zo63 y1) <|
    some ([.one (.b (((asB (resC y1 0 0)) && (!(s1.toList == (⟨#[46]⟩ : ByteArray).toList))) && (!(s1.toList == (⟨#[46, 46]⟩ : ByteArray).toList))))], [])) KK SV.undef (0 : Int) SV.undef SV.undef
def t142 : Y142 := ta142 t63 t141
def zr142 : List DV := [.one (.b false)]
def zo142 : Rw := []
def A142 : List TA := [.one (.s)]
abbrev Y132 := Int → Rw → Int → Rs
def l132o0 (n1 : Int) (l1 : Rw) (n2 n3 : Int) (q1 : Int → Int → Int → Int → Int → ByteArray → Rw → Int → Int → Int → Bool → Bool → Rs) (q2 : SV → Int → Bool → SV → Rs) : Nat → SV → Int → SV → SV → Rs
  | 0, _, _, _, _ => none
  | m + 1, v1, n4, v2, v3 =>
    let y1 := decide (n4 < n3)
    if y1 then
     let y2 := l1.getD n4.toNat []
     chk (decide (0 ≤ n4) && decide (n4 < l1.length) && isRow z64 y2) <|
     let y3 := (asI (nthD y2 0)) == n2
     if y3 then
      let y4 := l1.getD n4.toNat []
      chk (decide (0 ≤ n4) && decide (n4 < l1.length) && isRow z64 y4) <|
      q1 (asI (nthD y4 0)) (asI (nthD y4 1)) (asI (nthD y4 2)) (asI (nthD y4 3)) (asI (nthD y4 4)) (asS (nthD y4 5)) (asL (nthD y4 6)) (asI (nthD y4 7)) (asI (nthD y4 8)) n4 y1 y3
     else
      l132o0 n1 l1 n2 n3 q1 q2 m (.d (.i .i64 n4)) (w64 (n4 + (1 : Int))) (.d (.b y1)) (.d (.b y3))
    else
     q2 (keepV [] v1) n4 y1 (keepV [] v3)
def t132 (n1 : Int) (l1 : Rw) (n2 : Int) : Rs :=
  l132o0 n1 l1 n2 (l1.length : Int)
   (fun (n3 n4 n5 n6 n7 : Int) (s1 : ByteArray) (l2 : Rw) (n8 n9 n10 : Int) (b1 b2 : Bool) =>
    some ([.one (.b true), .agg [.i .i64 n3, .i .i64 n4, .i .i64 n5, .i .i64 n6, .i .i64 n7, .s s1, .l l2, .i .i64 n8, .i .i64 n9]], []))
   (fun (v1 : SV) (n11 : Int) (b3 : Bool) (v2 : SV) =>
    some ([.one (.b false), .agg [.i .i64 (0 : Int), .i .i64 (0 : Int), .i .i64 (0 : Int), .i .i64 (0 : Int), .i .i64 (0 : Int), .s (⟨#[]⟩ : ByteArray), .l ([] : Rw), .i .i64 (0 : Int), .i .i64 (0 : Int)]], [])) KK SV.undef (0 : Int) SV.undef SV.undef
def zr132 : List DV := [.one (.b false), .agg [.i .i64 0, .i .i64 0, .i .i64 0, .i .i64 0, .i .i64 0, .s ⟨#[]⟩, .l [], .i .i64 0, .i .i64 0]]
def zo132 : Rw := []
def A132 : List TA := [.ptr [.i .i64, .l], .one (.i .i64)]
abbrev Y131 := Int → Rw → Int → Int → Int → Int → Int → ByteArray → Rw → Int → Int → Rs
def la131o0 (t132 : Y132) (t142 : Y142) (n1 : Int) (l1 : Rw) (n2 n3 n4 n5 n6 : Int) (s1 : ByteArray) (l2 : Rw) (n7 n8 : Int) (b1 : Bool) (l3 : Rw) (n9 n10 n11 n12 n13 n14 : Int) (s2 : ByteArray) (l4 : Rw) (n15 n16 : Int) (q1 : Int → Bool → Bool → ByteArray → Int → Rs) (q2 : SV → Int → Bool → SV → Rs) : Nat → SV → Int → SV → SV → Rs
  | 0, _, _, _, _ => none
  | m + 1, v1, n17, v2, v3 =>
    let y1 := decide (n17 < n9)
    if y1 then
     let y2 := l3.getD n17.toNat []
     chk (decide (0 ≤ n17) && decide (n17 < l3.length) && isRow z129 y2) <|
     let y3 := asS (nthD y2 0)
     let y4 := t142 y3
     chk (okR zr142 zo142 y4) <|
     let y5 := asI (nthD y2 1)
     let y6 := t132 n1 l1 y5
     let y7 := (!(asB (resC y4 0 0))) || (y5 == (1 : Int))
     chk ((okR zr132 zo132 y6) || !(!y7)) <|
     let y8 := w64 (n17 - (1 : Int))
     let y9 := l4.getD y8.toNat []
     let y10 := y7 || (!(asB (resC y6 0 0)))
     let y11 := decide (n17 > (0 : Int))
     chk ((decide (0 ≤ y8) && decide (y8 < l4.length) && isRow z129 y9) || !((!y10) && y11)) <|
     let y12 := y10 || (y11 && (!(Op.bytesLess (asS (nthD y9 0)).toList y3.toList)))
     if y12 then
      q1 n17 y1 y12 y3 y5
     else
      la131o0 t132 t142 n1 l1 n2 n3 n4 n5 n6 s1 l2 n7 n8 b1 l3 n9 n10 n11 n12 n13 n14 s2 l4 n15 n16 q1 q2 m (.d (.i .i64 n17)) (w64 (n17 + (1 : Int))) (.d (.b y1)) (.d (.b y12))
    else
     q2 (keepV [192] v1) n17 y1 (keepV [192] v3)
def ta131 (t132 : Y132) (t142 : Y142) (n1 : Int) (l1 : Rw) (n2 n3 n4 n5 n6 : Int) (s1 : ByteArray) (l2 : Rw) (n7 n8 : Int) : Rs :=
  la131o0 t132 t142 n1 l1 n2 n3 n4 n5 n6 s1 l2 n7 n8 false l2 (l2.length : Int) n2 n3 n4 n5 n6 s1 l2 n7 n8
   (fun (n9 : Int) (b1 b2 : Bool) (s2 : ByteArray) (n10 : Int) =>
    some ([.one (.b false)], []))
   (fun (v1 : SV) (n11 : Int) (b3 : Bool) (v2 : SV) =>
    some ([.one (.b (decide ((l2.length : Int) ≤ (12 : Int))))], [])) KK SV.undef (0 : Int) SV.undef SV.undef
def t131 : Y131 := ta131 t132 t142
def zr131 : List DV := [.one (.b false)]
def zo131 : Rw := []
def A131 : List TA := [.ptr [.i .i64, .l], .agg [.i .i64, .i .i64, .i .i64, .i .i64, .i .i64, .s, .l, .i .i64, .i .i64]]
abbrev Y99 := Int → Rw → Int → Int → Int → Int → Int → ByteArray → Rw → Int → Int → Rs
def ta99 (t63 : Y63) (t130 : Y130) (t131 : Y131) (n1 : Int) (l1 : Rw) (n2 n3 n4 n5 n6 : Int) (s1 : ByteArray) (l2 : Rw) (n7 n8 : Int) : Rs :=
  let y1 := t63 n4 (0 : Int) (2047 : Int)
  chk (okR zr63 zo63 y1) <|
  let y2 := t63 n5 (0 : Int) (1000 : Int)
  let y3 := !(asB (resC y1 0 0))
  chk ((okR zr63 zo63 y2) || !(!y3)) <|
  let y4 := t63 n6 (0 : Int) (1000 : Int)
  let y5 := y3 || (!(asB (resC y2 0 0)))
  chk ((okR zr63 zo63 y4) || !(!y5)) <|
  if y5 || (!(asB (resC y4 0 0))) then
   some ([.one (.b false)], [])
  else
   if (n3 != (2 : Int)) && (((decide ((l2.length : Int) > (0 : Int))) || (n7 != (0 : Int))) || (n8 != (0 : Int))) then
    some ([.one (.b false)], [])
   else
    if n3 == (1 : Int) then
     some ([.one (.b (decide ((s1.size : Int) ≤ (64 : Int))))], [])
    else
     if n3 == (3 : Int) then
      chk (okR zr130 zo130 (t130 s1)) <|
      some ([.one (.b ((asB (resC (t130 s1) 0 0)) && (n4 == (511 : Int))))], [])
     else
      if n3 == (2 : Int) then
       let y6 := t131 n1 l1 n2 n3 n4 n5 n6 s1 l2 n7 n8
       let y7 := s1.toList == (⟨#[]⟩ : ByteArray).toList
       chk ((okR zr131 zo131 y6) || !y7) <|
       let y8 := t63 n7 (0 : Int) (400 : Int)
       let y9 := y7 && (asB (resC y6 0 0))
       chk ((okR zr63 zo63 y8) || !y9) <|
       let y10 := t63 n8 (0 : Int) (24 : Int)
       let y11 := y9 && (asB (resC y8 0 0))
       chk ((okR zr63 zo63 y10) || !y11) <|
       some ([.one (.b (y11 && (asB (resC y10 0 0))))], [])
      else
       some ([.one (.b false)], [])
def t99 : Y99 := ta99 t63 t130 t131
def zr99 : List DV := [.one (.b false)]
def zo99 : Rw := []
def A99 : List TA := [.ptr [.i .i64, .l], .agg [.i .i64, .i .i64, .i .i64, .i .i64, .i .i64, .s, .l, .i .i64, .i .i64]]
abbrev Y133 := Rw → Int → Rs
def l133o0 (l1 : Rw) (n1 n2 n3 : Int) (q1 : Int → Bool → Bool → Rs) (q2 : SV → Int → Bool → SV → Rs) : Nat → SV → Int → SV → SV → Rs
  | 0, _, _, _, _ => none
  | m + 1, v1, n4, v2, v3 =>
    let y1 := decide (n4 < n3)
    if y1 then
     let y2 := l1.getD n4.toNat []
     chk (decide (0 ≤ n4) && decide (n4 < l1.length) && isRow z3 y2) <|
     let y3 := n1 == (asI (nthD y2 0))
     if y3 then
      q1 n4 y1 y3
     else
      l133o0 l1 n1 n2 n3 q1 q2 m (.d (.i .i64 n4)) (w64 (n4 + (1 : Int))) (.d (.b y1)) (.d (.b y3))
    else
     q2 (keepV [] v1) n4 y1 (keepV [] v3)
def t133 (l1 : Rw) (n1 : Int) : Rs :=
  l133o0 l1 n1 (0 : Int) (l1.length : Int)
   (fun (n2 : Int) (b1 b2 : Bool) =>
    some ([.one (.i .i64 n2)], []))
   (fun (v1 : SV) (n3 : Int) (b3 : Bool) (v2 : SV) =>
    some ([.one (.i .i64 (-1 : Int))], [])) KK SV.undef (0 : Int) SV.undef SV.undef
def zr133 : List DV := [.one (.i .i64 0)]
def zo133 : Rw := []
def A133 : List TA := [.one (.l), .one (.i .i64)]
abbrev Y101 := Rw → Int → Rs
def ta101 (t133 : Y133) (l1 : Rw) (n1 : Int) : Rs :=
  chk (okR zr133 zo133 (t133 l1 n1)) <|
  some ([.one (.b (decide ((asI (resC (t133 l1 n1) 0 0)) ≥ (0 : Int))))], [])
def t101 : Y101 := ta101 t133
def zr101 : List DV := [.one (.b false)]
def zo101 : Rw := []
def A101 : List TA := [.one (.l), .one (.i .i64)]
abbrev Y100 := Int → Rw → Int → Rs
def la100o3 (t101 : Y101) (t132 : Y132) (n1 : Int) (l1 : Rw) (n2 n3 : Int) (b1 b2 : Bool) (l2 : Rw) (n4 : Int) (q1 : SV → Int → Bool → SV → Rw → Rw → Rs) : Nat → SV → Int → SV → SV → Rw → Rw → Rs
  | 0, _, _, _, _, _, _ => none
  | m + 1, v1, n5, v2, v3, l3, l4 =>
    let y1 := decide (n5 < n4)
    if y1 then
     let y2 := l2.getD n5.toNat []
     chk (decide (0 ≤ n5) && decide (n5 < l2.length) && isRow z129 y2) <|
     let y3 := asI (nthD y2 1)
     let y4 := t101 l3 y3
     chk (okR zr101 zo101 y4) <|
     let k1 := fun (v4 : SV) (l5 l6 : Rw) =>
      let y5 := !(asB (resC y4 0 0))
      la100o3 t101 t132 n1 l1 n2 n3 b1 b2 l2 n4 q1 m (keepV [704, 832] v4) (w64 (n5 + (1 : Int))) (.d (.b y1)) (.d (.b y5)) l5 l6
     let y6 := !(asB (resC y4 0 0))
     if y6 then
      let y7 := ([[.i .i64 y3]] : Rw)
      chk ((flatR 1 y7) && decide (l3.length + y7.length ≤ lim)) <|
      let y8 := ([[.i .i64 y3]] : Rw)
      chk ((flatR 1 y8) && decide (l4.length + y8.length ≤ lim)) <|
      k1 (killV 3200 (killV 2880 (killV 832 (killV 704 v1)))) (l3 ++ y7) (l4 ++ y8)
     else
      k1 v1 l3 l4
    else
     q1 (keepV [704, 832] v1) n5 y1 (keepV [704, 832] v3) l3 l4
def la100o0 (t101 : Y101) (t132 : Y132) (n1 : Int) (l1 : Rw) (n2 : Int) (q1 : Int → SV → Bool → SV → SV → SV → SV → SV → SV → Rw → Rw → Rs) : Nat → Int → SV → SV → SV → SV → SV → SV → SV → SV → Rw → Rw → Rs
  | 0, _, _, _, _, _, _, _, _, _, _, _ => none
  | m + 1, n3, v1, v2, v3, v4, v5, v6, v7, v8, l2, l3 =>
    let y1 := decide (n3 < (l3.length : Int))
    if y1 then
     chk (decide (0 ≤ n3) && decide (n3 < l3.length)) <|
     let y2 := l3.getD (n3.toNat) []
     chk (decide (1 ≤ y2.length) && isF z3 0 y2) <|
     let y3 := t132 n1 l1 (asI (nthD y2 0))
     chk (okR zr132 zo132 y3) <|
     let y4 := asB (resC y3 0 0)
     let y5 := !y4
     if y5 then
      let y6 := asI (resC y3 1 0)
      let y7 := asI (resC y3 1 1)
      let y8 := asI (resC y3 1 2)
      let y9 := asI (resC y3 1 3)
      let y10 := asI (resC y3 1 4)
      let y11 := asS (resC y3 1 5)
      let y12 := asL (resC y3 1 6)
      let y13 := asI (resC y3 1 7)
      let y14 := asI (resC y3 1 8)
      la100o0 t101 t132 n1 l1 n2 q1 m (w64 (n3 + (1 : Int))) (SV.op y4 [.i .i64 y6, .i .i64 y7, .i .i64 y8, .i .i64 y9, .i .i64 y10, .s y11, .l y12, .i .i64 y13, .i .i64 y14]) (.d (.b y1)) (.d (.b y5)) (keepV [704, 832] v4) (keepV [704, 832] v5) (keepV [704, 832] v6) (keepV [704, 832] v7) (keepV [704, 832] v8) l2 l3
     else
      chk (y4) <|
      let y15 := asL (resC y3 1 6)
      let y16 := (y15.length : Int)
      let y17 := asI (resC y3 1 0)
      let y18 := asI (resC y3 1 1)
      let y19 := asI (resC y3 1 2)
      let y20 := asI (resC y3 1 3)
      let y21 := asI (resC y3 1 4)
      let y22 := asS (resC y3 1 5)
      let y23 := asI (resC y3 1 7)
      let y24 := asI (resC y3 1 8)
      la100o3 t101 t132 n1 l1 n2 n3 y1 y5 y15 y16
       (fun (v9 : SV) (n4 : Int) (b1 : Bool) (v10 : SV) (l4 l5 : Rw) =>
        la100o0 t101 t132 n1 l1 n2 q1 m (w64 (n3 + (1 : Int))) (keepV [704, 832] v9) (.d (.b y1)) (.d (.b y5)) (.d (.l y15)) (.d (.i .i64 y16)) (.d (.i .i64 n4)) (.d (.b b1)) (keepV [704, 832] v10) l4 l5) KK (SV.op y4 [.i .i64 y17, .i .i64 y18, .i .i64 y19, .i .i64 y20, .i .i64 y21, .s y22, .l y15, .i .i64 y23, .i .i64 y24]) (0 : Int) v7 v8 l2 l3
    else
     q1 n3 (keepV [704, 832] v1) y1 (keepV [704, 832] v3) (keepV [704, 832] v4) (keepV [704, 832] v5) (keepV [704, 832] v6) (keepV [704, 832] v7) (keepV [704, 832] v8) l2 l3
def ta100 (t101 : Y101) (t132 : Y132) (n1 : Int) (l1 : Rw) (n2 : Int) : Rs :=
  la100o0 t101 t132 n1 l1 n2
   (fun (n3 : Int) (v1 : SV) (b1 : Bool) (v2 v3 v4 v5 v6 v7 : SV) (l2 l3 : Rw) =>
    some ([.one (.l l2)], [])) KK (0 : Int) SV.undef SV.undef SV.undef SV.undef SV.undef SV.undef SV.undef SV.undef ([] : Rw) ([[.i .i64 n2]] : Rw)
def t100 : Y100 := ta100 t101 t132
def zr100 : List DV := [.one (.l [])]
def zo100 : Rw := []
def A100 : List TA := [.ptr [.i .i64, .l], .one (.i .i64)]
abbrev Y102 := Int → Rw → Int → Rs
def l102o2 (n1 : Int) (l1 : Rw) (n2 n3 : Int) (l2 : Rw) (n4 n5 : Int) (b1 : Bool) (l3 : Rw) (n6 n7 n8 n9 n10 n11 : Int) (s1 : ByteArray) (l4 : Rw) (n12 n13 : Int) (q1 : Int → Int → Bool → SV → Rs) : Nat → Int → Int → SV → SV → Rs
  | 0, _, _, _, _ => none
  | m + 1, n14, n15, v1, v2 =>
    let y1 := decide (n15 < n6)
    if y1 then
     let y2 := l3.getD n15.toNat []
     chk (decide (0 ≤ n15) && decide (n15 < l3.length) && isRow z129 y2) <|
     let k1 := fun (n16 : Int) =>
      let y3 := (asI (nthD y2 1)) == n2
      l102o2 n1 l1 n2 n3 l2 n4 n5 b1 l3 n6 n7 n8 n9 n10 n11 s1 l4 n12 n13 q1 m n16 (w64 (n15 + (1 : Int))) (.d (.b y1)) (.d (.b y3))
     let y4 := (asI (nthD y2 1)) == n2
     if y4 then
      k1 (w64 (n14 + (1 : Int)))
     else
      k1 n14
    else
     q1 n14 n15 y1 (keepV [448] v2)
def l102o0 (n1 : Int) (l1 : Rw) (n2 n3 : Int) (l2 : Rw) (n4 : Int) (q1 : Int → Int → Bool → SV → SV → SV → SV → SV → Rs) : Nat → Int → Int → SV → SV → SV → SV → SV → SV → Rs
  | 0, _, _, _, _, _, _, _, _ => none
  | m + 1, n5, n6, v1, v2, v3, v4, v5, v6 =>
    let y1 := decide (n6 < n4)
    if y1 then
     let y2 := l2.getD n6.toNat []
     chk (decide (0 ≤ n6) && decide (n6 < l2.length) && isRow z64 y2) <|
     let y3 := asL (nthD y2 6)
     let y4 := (y3.length : Int)
     l102o2 n1 l1 n2 n3 l2 n4 n6 y1 y3 y4 (asI (nthD y2 0)) (asI (nthD y2 1)) (asI (nthD y2 2)) (asI (nthD y2 3)) (asI (nthD y2 4)) (asS (nthD y2 5)) y3 (asI (nthD y2 7)) (asI (nthD y2 8))
      (fun (n7 n8 : Int) (b1 : Bool) (v7 : SV) =>
       l102o0 n1 l1 n2 n3 l2 n4 q1 m n7 (w64 (n6 + (1 : Int))) (.d (.b y1)) (.d (.l y3)) (.d (.i .i64 y4)) (.d (.i .i64 n8)) (.d (.b b1)) (keepV [] v7)) KK n5 (0 : Int) v5 v6
    else
     q1 n5 n6 y1 (keepV [] v2) (keepV [] v3) (keepV [] v4) (keepV [] v5) (keepV [] v6)
def t102 (n1 : Int) (l1 : Rw) (n2 : Int) : Rs :=
  l102o0 n1 l1 n2 (0 : Int) l1 (l1.length : Int)
   (fun (n3 n4 : Int) (b1 : Bool) (v1 v2 v3 v4 v5 : SV) =>
    some ([.one (.i .i64 n3)], [])) KK (0 : Int) (0 : Int) SV.undef SV.undef SV.undef SV.undef SV.undef SV.undef
def zr102 : List DV := [.one (.i .i64 0)]
def zo102 : Rw := []
def A102 : List TA := [.ptr [.i .i64, .l], .one (.i .i64)]
abbrev Y103 := Int → Rw → Rs
def l103o0 (n1 : Int) (l1 : Rw) (n2 : Int) (l2 : Rw) (n3 : Int) (q1 : Int → Int → Bool → Rs) : Nat → Int → Int → SV → Rs
  | 0, _, _, _ => none
  | m + 1, n4, n5, v1 =>
    let y1 := decide (n5 < n3)
    if y1 then
     let y2 := l2.getD n5.toNat []
     chk (decide (0 ≤ n5) && decide (n5 < l2.length) && isRow z64 y2) <|
     l103o0 n1 l1 n2 l2 n3 q1 m (w64 (n4 + ((asS (nthD y2 5)).size : Int))) (w64 (n5 + (1 : Int))) (.d (.b y1))
    else
     q1 n4 n5 y1
def t103 (n1 : Int) (l1 : Rw) : Rs :=
  l103o0 n1 l1 (0 : Int) l1 (l1.length : Int)
   (fun (n2 n3 : Int) (b1 : Bool) =>
    some ([.one (.i .i64 n2)], [])) KK (0 : Int) (0 : Int) SV.undef
def zr103 : List DV := [.one (.i .i64 0)]
def zo103 : Rw := []
def A103 : List TA := [.ptr [.i .i64, .l]]
abbrev Y135 := Int → Rw → Int → Rs
def la135o0 (t100 : Y100) (t132 : Y132) (n1 : Int) (l1 : Rw) (n2 n3 n4 n5 : Int) (l2 : Rw) (q1 : Int → SV → SV → Int → Bool → SV → Rs) : Nat → Int → SV → SV → Int → SV → SV → Rs
  | 0, _, _, _, _, _, _ => none
  | m + 1, n6, v1, v2, n7, v3, v4 =>
    let y1 := decide (n7 < n5)
    if y1 then
     chk (decide (0 ≤ n7) && decide (n7 < l2.length)) <|
     let y2 := l2.getD (n7.toNat) []
     chk (decide (1 ≤ y2.length) && isF z3 0 y2) <|
     let y3 := asI (nthD y2 0)
     let y4 := t132 n1 l1 y3
     chk (okR zr132 zo132 y4) <|
     let k1 := fun (n8 : Int) =>
      let y5 := asB (resC y4 0 0)
      let y6 := asS (resC y4 1 5)
      let y7 := !(!y5)
      la135o0 t100 t132 n1 l1 n2 n3 n4 n5 l2 q1 m n8 (.d (.i .i64 y3)) (SV.op y5 [.i .i64 (asI (resC y4 1 0)), .i .i64 (asI (resC y4 1 1)), .i .i64 (asI (resC y4 1 2)), .i .i64 (asI (resC y4 1 3)), .i .i64 (asI (resC y4 1 4)), .s y6, .l (asL (resC y4 1 6)), .i .i64 (asI (resC y4 1 7)), .i .i64 (asI (resC y4 1 8))]) (w64 (n7 + (1 : Int))) (.d (.b y1)) (.d (.b y7))
     let y8 := asB (resC y4 0 0)
     let y9 := !(!y8)
     if y9 then
      chk (y8) <|
      let y10 := asS (resC y4 1 5)
      k1 (w64 (n6 + (y10.size : Int)))
     else
      k1 n6
    else
     q1 n6 (keepV [832] v1) (keepV [832] v2) n7 y1 (keepV [832] v4)
def ta135 (t100 : Y100) (t132 : Y132) (n1 : Int) (l1 : Rw) (n2 : Int) : Rs :=
  let y1 := t100 n1 l1 n2
  chk (okR zr100 zo100 y1) <|
  let y2 := asL (resC y1 0 0)
  la135o0 t100 t132 n1 l1 n2 (0 : Int) (0 : Int) (y2.length : Int) y2
   (fun (n3 : Int) (v1 v2 : SV) (n4 : Int) (b1 : Bool) (v3 : SV) =>
    some ([.one (.i .i64 n3), .one (.i .i64 (y2.length : Int))], [])) KK (0 : Int) SV.undef SV.undef (0 : Int) SV.undef SV.undef
def t135 : Y135 := ta135 t100 t132
def zr135 : List DV := [.one (.i .i64 0), .one (.i .i64 0)]
def zo135 : Rw := []
def A135 : List TA := [.ptr [.i .i64, .l], .one (.i .i64)]
abbrev Y105 := Int → Rw → Int → Int → Int → Int → Int → ByteArray → Rw → Int → Int → Rs
def ta105 (t135 : Y135) (n1 : Int) (l1 : Rw) (n2 n3 n4 n5 n6 : Int) (s1 : ByteArray) (l2 : Rw) (n7 n8 : Int) : Rs :=
  let y1 := t135 n1 l1 n2
  chk (okR zr135 zo135 y1) <|
  some ([.one (.b (((decide (n7 > (0 : Int))) && (decide ((asI (resC y1 0 0)) > n7))) || ((decide (n8 > (0 : Int))) && (decide ((asI (resC y1 1 0)) > n8)))))], [])
def t105 : Y105 := ta105 t135
def zr105 : List DV := [.one (.b false)]
def zo105 : Rw := []
def A105 : List TA := [.ptr [.i .i64, .l], .agg [.i .i64, .i .i64, .i .i64, .i .i64, .i .i64, .s, .l, .i .i64, .i .i64]]
abbrev Y134 := Rw → Int → Rw → Rs
def la134o0 (t105 : Y105) (l1 : Rw) (n1 : Int) (l2 : Rw) (n2 n3 : Int) (q1 : Int → Bool → Bool → Rs) (q2 : SV → Int → Bool → SV → Rs) : Nat → SV → Int → SV → SV → Rs
  | 0, _, _, _, _ => none
  | m + 1, v1, n4, v2, v3 =>
    let y1 := decide (n4 < n3)
    if y1 then
     let y2 := l1.getD n4.toNat []
     chk (decide (0 ≤ n4) && decide (n4 < l1.length) && isRow z64 y2) <|
     let y3 := t105 n1 l2 (asI (nthD y2 0)) (asI (nthD y2 1)) (asI (nthD y2 2)) (asI (nthD y2 3)) (asI (nthD y2 4)) (asS (nthD y2 5)) (asL (nthD y2 6)) (asI (nthD y2 7)) (asI (nthD y2 8))
     chk (okR zr105 zo105 y3) <|
     let y4 := asB (resC y3 0 0)
     if y4 then
      q1 n4 y1 y4
     else
      la134o0 t105 l1 n1 l2 n2 n3 q1 q2 m (.d (.i .i64 n4)) (w64 (n4 + (1 : Int))) (.d (.b y1)) (.d (.b y4))
    else
     q2 (keepV [] v1) n4 y1 (keepV [] v3)
def ta134 (t105 : Y105) (l1 : Rw) (n1 : Int) (l2 : Rw) : Rs :=
  la134o0 t105 l1 n1 l2 (0 : Int) (l1.length : Int)
   (fun (n2 : Int) (b1 b2 : Bool) =>
    some ([.one (.i .i64 n2)], []))
   (fun (v1 : SV) (n3 : Int) (b3 : Bool) (v2 : SV) =>
    some ([.one (.i .i64 (-1 : Int))], [])) KK SV.undef (0 : Int) SV.undef SV.undef
def t134 : Y134 := ta134 t105
def zr134 : List DV := [.one (.i .i64 0)]
def zo134 : Rw := []
def A134 : List TA := [.one (.l), .ptr [.i .i64, .l]]
abbrev Y104 := Rw → Int → Rw → Rs
def ta104 (t134 : Y134) (l1 : Rw) (n1 : Int) (l2 : Rw) : Rs :=
  let y1 := t134 l1 n1 l2
  chk (okR zr134 zo134 y1) <|
  some ([.one (.b (decide ((asI (resC y1 0 0)) ≥ (0 : Int))))], [])
def t104 : Y104 := ta104 t134
def zr104 : List DV := [.one (.b false)]
def zo104 : Rw := []
def A104 : List TA := [.one (.l), .ptr [.i .i64, .l]]
abbrev Y66 := Int → Rw → Rs
def la66o4 (t63 : Y63) (t99 : Y99) (t100 : Y100) (t101 : Y101) (t102 : Y102) (t103 : Y103) (t104 : Y104) (n1 : Int) (l1 : Rw) (b1 b2 : Bool) (l2 : Rw) (n2 n3 : Int) (b3 : Bool) (l3 : Rw) (n4 n5 : Int) (l4 l5 : Rw) (q1 : SV → SV → Int → Bool → Bool → Int → Int → Int → Int → Int → ByteArray → Rw → Int → Int → Rs) (q2 : SV → SV → Int → Bool → SV → Rs) : Nat → SV → SV → Int → SV → SV → Rs
  | 0, _, _, _, _, _ => none
  | m + 1, v1, v2, n6, v3, v4 =>
    let y1 := decide (n6 < n4)
    if y1 then
     let y2 := l3.getD n6.toNat []
     chk (decide (0 ≤ n6) && decide (n6 < l3.length) && isRow z64 y2) <|
     let y3 := asI (nthD y2 0)
     let y4 := t101 l5 y3
     chk (okR zr101 zo101 y4) <|
     let y5 := t102 n5 l4 y3
     let y6 := !(asB (resC y4 0 0))
     let y7 := asI (nthD y2 1)
     let y8 := y7 == (2 : Int)
     chk ((okR zr102 zo102 y5) || !((!y6) && y8)) <|
     let y9 := y6 || (y8 && ((asI (resC y5 0 0)) != (1 : Int)))
     if y9 then
      q1 v1 v2 n6 y1 y9 y3 y7 (asI (nthD y2 2)) (asI (nthD y2 3)) (asI (nthD y2 4)) (asS (nthD y2 5)) (asL (nthD y2 6)) (asI (nthD y2 7)) (asI (nthD y2 8))
     else
      la66o4 t63 t99 t100 t101 t102 t103 t104 n1 l1 b1 b2 l2 n2 n3 b3 l3 n4 n5 l4 l5 q1 q2 m (keepV [64, 4608] v1) (keepV [64, 4608] v2) (w64 (n6 + (1 : Int))) (.d (.b y1)) (.d (.b y9))
    else
     q2 (keepV [64, 4608] v1) (keepV [64, 4608] v2) n6 y1 (keepV [64, 4608] v4)
def la66o1 (t63 : Y63) (t99 : Y99) (t100 : Y100) (t101 : Y101) (t102 : Y102) (t103 : Y103) (t104 : Y104) (n1 : Int) (l1 : Rw) (b1 b2 : Bool) (l2 : Rw) (n2 n3 : Int) (l3 : Rw) (q1 : Int → Bool → Bool → Int → Int → Int → Int → Int → ByteArray → Rw → Int → Int → Rs) (q2 : SV → Int → Bool → SV → Rs) : Nat → SV → Int → SV → SV → Rs
  | 0, _, _, _, _ => none
  | m + 1, v1, n4, v2, v3 =>
    let y1 := decide (n4 < n2)
    if y1 then
     let y2 := l2.getD n4.toNat []
     chk (decide (0 ≤ n4) && decide (n4 < l2.length) && isRow z64 y2) <|
     let y3 := asI (nthD y2 0)
     let y4 := t63 y3 (1 : Int) (w64 (n3 - (1 : Int)))
     chk (okR zr63 zo63 y4) <|
     let y5 := w64 (n4 - (1 : Int))
     let y6 := l3.getD y5.toNat []
     let y7 := !(asB (resC y4 0 0))
     let y8 := decide (n4 > (0 : Int))
     chk ((decide (0 ≤ y5) && decide (y5 < l3.length) && isRow z64 y6) || !((!y7) && y8)) <|
     let y9 := asI (nthD y2 1)
     let y10 := asI (nthD y2 2)
     let y11 := asI (nthD y2 3)
     let y12 := asI (nthD y2 4)
     let y13 := asS (nthD y2 5)
     let y14 := asL (nthD y2 6)
     let y15 := asI (nthD y2 7)
     let y16 := asI (nthD y2 8)
     let y17 := t99 n3 l3 y3 y9 y10 y11 y12 y13 y14 y15 y16
     let y18 := y7 || (y8 && (decide ((asI (nthD y6 0)) ≥ y3)))
     chk ((okR zr99 zo99 y17) || !(!y18)) <|
     let y19 := y18 || (!(asB (resC y17 0 0)))
     if y19 then
      q1 n4 y1 y19 y3 y9 y10 y11 y12 y13 y14 y15 y16
     else
      la66o1 t63 t99 t100 t101 t102 t103 t104 n1 l1 b1 b2 l2 n2 n3 l3 q1 q2 m (.d (.i .i64 n4)) (w64 (n4 + (1 : Int))) (.d (.b y1)) (.d (.b y19))
    else
     q2 (keepV [64] v1) n4 y1 (keepV [64] v3)
def ta66 (t63 : Y63) (t99 : Y99) (t100 : Y100) (t101 : Y101) (t102 : Y102) (t103 : Y103) (t104 : Y104) (n1 : Int) (l1 : Rw) : Rs :=
  let y1 := t63 n1 (2 : Int) (100000 : Int)
  chk (okR zr63 zo63 y1) <|
  let y2 := t63 (l1.length : Int) (1 : Int) (24 : Int)
  let y3 := !(asB (resC y1 0 0))
  chk ((okR zr63 zo63 y2) || !(!y3)) <|
  let y4 := l1.getD (0 : Int).toNat []
  let y5 := y3 || (!(asB (resC y2 0 0)))
  chk ((decide (0 ≤ (0 : Int)) && decide ((0 : Int) < l1.length) && isRow z64 y4) || !(!y5)) <|
  let y6 := l1.getD (0 : Int).toNat []
  let y7 := y5 || ((asI (nthD y4 0)) != (1 : Int))
  chk ((decide (0 ≤ (0 : Int)) && decide ((0 : Int) < l1.length) && isRow z64 y6) || !(!y7)) <|
  let y8 := y7 || ((asI (nthD y6 1)) != (2 : Int))
  if y8 then
   some ([.one (.b false)], [])
  else
   let y9 := (l1.length : Int)
   la66o1 t63 t99 t100 t101 t102 t103 t104 n1 l1 false y8 l1 y9 n1 l1
    (fun (n2 : Int) (b1 b2 : Bool) (n3 n4 n5 n6 n7 : Int) (s1 : ByteArray) (l2 : Rw) (n8 n9 : Int) =>
     some ([.one (.b false)], []))
    (fun (v1 : SV) (n10 : Int) (b3 : Bool) (v2 : SV) =>
     let y10 := t100 n1 l1 (1 : Int)
     chk (okR zr100 zo100 y10) <|
     chk (decide (0 ≤ (1 : Int) ∧ (1 : Int) ≤ l1.length ∧ (l1.getD 0 z64).length = z64.length)) <|
     let y11 := l1.drop (1 : Int).toNat
     la66o4 t63 t99 t100 t101 t102 t103 t104 n1 l1 false y8 l1 y9 n10 b3 y11 (y11.length : Int) n1 l1 (asL (resC y10 0 0))
      (fun (v3 v4 : SV) (n11 : Int) (b4 b5 : Bool) (n12 n13 n14 n15 n16 : Int) (s2 : ByteArray) (l3 : Rw) (n17 n18 : Int) =>
       some ([.one (.b false)], []))
      (fun (v5 v6 : SV) (n19 : Int) (b6 : Bool) (v7 : SV) =>
       chk (okR zr103 zo103 (t103 n1 l1)) <|
       let y12 := t104 l1 n1 l1
       let y13 := decide ((asI (resC (t103 n1 l1) 0 0)) ≤ (400 : Int))
       chk ((okR zr104 zo104 y12) || !y13) <|
       some ([.one (.b (y13 && (!(asB (resC y12 0 0)))))], [])) KK v1 v2 (0 : Int) SV.undef SV.undef) KK SV.undef (0 : Int) SV.undef SV.undef
def t66 : Y66 := ta66 t63 t99 t100 t101 t102 t103 t104
def zr66 : List DV := [.one (.b false)]
def zo66 : Rw := []
def A66 : List TA := [.agg [.i .i64, .l]]
abbrev Y25 := Int → Rw → Int → Rw → Rw → Rs
def la25o0 (t63 : Y63) (t64 : Y64) (t65 : Y65) (t66 : Y66) (n1 : Int) (l1 : Rw) (n2 : Int) (l2 l3 : Rw) (b1 : Bool) (l4 : Rw) (n3 n4 : Int) (l5 : Rw) (n5 : Int) (l6 l7 : Rw) (q1 : Int → Bool → Bool → Int → Int → Int → Int → ByteArray → Rs) (q2 : SV → Int → Bool → SV → Rs) : Nat → SV → Int → SV → SV → Rs
  | 0, _, _, _, _ => none
  | m + 1, v1, n6, v2, v3 =>
    let y1 := decide (n6 < n3)
    if y1 then
     let y2 := l4.getD n6.toNat []
     chk (decide (0 ≤ n6) && decide (n6 < l4.length) && isRow z81 y2) <|
     let y3 := asI (nthD y2 0)
     let y4 := t63 y3 (1 : Int) (3 : Int)
     chk (okR zr63 zo63 y4) <|
     let y5 := w64 (n6 - (1 : Int))
     let y6 := l7.getD y5.toNat []
     let y7 := !(asB (resC y4 0 0))
     let y8 := decide (n6 > (0 : Int))
     chk ((decide (0 ≤ y5) && decide (y5 < l7.length) && isRow z81 y6) || !((!y7) && y8)) <|
     let y9 := asI (nthD y2 1)
     let y10 := t63 y9 (1 : Int) (1000000 : Int)
     let y11 := y7 || (y8 && (decide ((asI (nthD y6 0)) ≥ y3)))
     chk ((okR zr63 zo63 y10) || !(!y11)) <|
     let y12 := asI (nthD y2 2)
     let y13 := t63 y12 (1 : Int) (100000 : Int)
     let y14 := y11 || (!(asB (resC y10 0 0)))
     chk ((okR zr63 zo63 y13) || !(!y14)) <|
     let y15 := asI (nthD y2 3)
     let y16 := asS (nthD y2 4)
     let y17 := t64 y15 y16
     let y18 := y14 || (!(asB (resC y13 0 0)))
     chk ((okR zr64 zo64 y17) || !(!y18)) <|
     let y19 := y18 || (!(asB (resC y17 0 0)))
     if y19 then
      q1 n6 y1 y19 y3 y9 y12 y15 y16
     else
      la25o0 t63 t64 t65 t66 n1 l1 n2 l2 l3 b1 l4 n3 n4 l5 n5 l6 l7 q1 q2 m (.d (.i .i64 n6)) (w64 (n6 + (1 : Int))) (.d (.b y1)) (.d (.b y19))
    else
     q2 (keepV [64] v1) n6 y1 (keepV [64] v3)
def ta25 (t63 : Y63) (t64 : Y64) (t65 : Y65) (t66 : Y66) (n1 : Int) (l1 : Rw) (n2 : Int) (l2 l3 : Rw) : Rs :=
  la25o0 t63 t64 t65 t66 n1 l1 n2 l2 l3 false l3 (l3.length : Int) n1 l1 n2 l2 l3
   (fun (n3 : Int) (b1 b2 : Bool) (n4 n5 n6 n7 : Int) (s1 : ByteArray) =>
    some ([.one (.b false)], []))
   (fun (v1 : SV) (n8 : Int) (b3 : Bool) (v2 : SV) =>
    let y1 := t63 n2 (0 : Int) (30 : Int)
    chk (okR zr63 zo63 y1) <|
    let y2 := asB (resC y1 0 0)
    chk ((okR zr65 zo65 (t65 l2)) || !y2) <|
    let y3 := y2 && (asB (resC (t65 l2) 0 0))
    chk ((okR zr66 zo66 (t66 n1 l1)) || !y3) <|
    some ([.one (.b (y3 && (asB (resC (t66 n1 l1) 0 0))))], [])) KK SV.undef (0 : Int) SV.undef SV.undef
def t25 : Y25 := ta25 t63 t64 t65 t66
def zr25 : List DV := [.one (.b false)]
def zo25 : Rw := []
def A25 : List TA := [.agg [.i .i64, .l, .i .i64, .l, .l]]
abbrev Y37 := ByteArray → Rs
def ta37 (t25 : Y25) (t81 : Y81) (s1 : ByteArray) : Rs :=
  chk (okR zr81 zo81 (t81 s1 false)) <|
  let y1 := asI (resC (t81 s1 false) 0 0)
  let y2 := asL (resC (t81 s1 false) 0 1)
  let y3 := asI (resC (t81 s1 false) 0 2)
  let y4 := asL (resC (t81 s1 false) 0 3)
  let y5 := asL (resC (t81 s1 false) 0 4)
  let y6 := t25 y1 y2 y3 y4 y5
  let y7 := (asB (outC (t81 s1 false) 0 1)) || (!((asS (outC (t81 s1 false) 0 0)).toList == (⟨#[]⟩ : ByteArray).toList))
  chk ((okR zr25 zo25 y6) || !(!y7)) <|
  if y7 || (!(asB (resC y6 0 0))) then
   some ([.agg [.i .i64 (0 : Int), .l ([] : Rw), .i .i64 (0 : Int), .l ([] : Rw), .l ([] : Rw)], .one (.b false)], [])
  else
   some ([.agg [.i .i64 y1, .l y2, .i .i64 y3, .l y4, .l y5], .one (.b true)], [])
def t37 : Y37 := ta37 t25 t81
def zr37 : List DV := [.agg [.i .i64 0, .l [], .i .i64 0, .l [], .l []], .one (.b false)]
def zo37 : Rw := []
def A37 : List TA := [.one (.s)]
abbrev Y39 := ByteArray → Rs
def la39o0 (t37 : Y37) (t82 : Y82) (s1 : ByteArray) (b1 : Bool) (q1 : Bool → Int → Bool → Bool → Int → Int → ByteArray → Bool → Rw → Rw → Rw → Rw → Rs) (q2 : SV → Int → Bool → SV → ByteArray → Bool → Rw → Rs) : Nat → SV → Int → SV → SV → ByteArray → Bool → Rw → Rs
  | 0, _, _, _, _, _, _, _ => none
  | m + 1, v1, n1, v2, v3, s2, b2, l1 =>
    let y1 := decide (n1 < (3 : Int))
    if y1 then
     chk (okR zr82 zo82 (t82 s2 b2)) <|
     let y2 := t37 (asS (resC (t82 s2 b2) 0 0))
     chk (okR zr37 zo37 y2) <|
     let y3 := asB (resC y2 1 0)
     let y4 := !y3
     if y4 then
      let y5 := asI (resC y2 0 0)
      let y6 := asI (resC y2 0 2)
      let y7 := asS (outC (t82 s2 b2) 0 0)
      let y8 := asB (outC (t82 s2 b2) 0 1)
      let y9 := asL (resC y2 0 1)
      let y10 := asL (resC y2 0 3)
      let y11 := asL (resC y2 0 4)
      q1 y3 n1 y1 y4 y5 y6 y7 y8 l1 y9 y10 y11
     else
      let y12 := asI (resC y2 0 0)
      let y13 := asL (resC y2 0 1)
      let y14 := asI (resC y2 0 2)
      let y15 := asL (resC y2 0 3)
      let y16 := asL (resC y2 0 4)
      let y17 := ([[.i .i64 y12, .l y13, .i .i64 y14, .l y15, .l y16]] : Rw)
      chk (true && decide (l1.length + y17.length ≤ lim)) <|
      let y18 := asS (outC (t82 s2 b2) 0 0)
      let y19 := asB (outC (t82 s2 b2) 0 1)
      la39o0 t37 t82 s1 b1 q1 q2 m (.d (.b y3)) (w64 (n1 + (1 : Int))) (.d (.b y1)) (.d (.b y4)) y18 y19 (l1 ++ y17)
    else
     q2 (keepV [640, 704] v1) n1 y1 (keepV [640, 704] v3) s2 b2 l1
def ta39 (t37 : Y37) (t82 : Y82) (s1 : ByteArray) : Rs :=
  la39o0 t37 t82 s1 false
   (fun (b1 : Bool) (n1 : Int) (b2 b3 : Bool) (n2 n3 : Int) (s2 : ByteArray) (b4 : Bool) (l1 l2 l3 l4 : Rw) =>
    some ([.one (.l ([] : Rw)), .one (.b false)], []))
   (fun (v1 : SV) (n4 : Int) (b5 : Bool) (v2 : SV) (s3 : ByteArray) (b6 : Bool) (l5 : Rw) =>
    if b6 || (!(s3.toList == (⟨#[]⟩ : ByteArray).toList)) then
     some ([.one (.l ([] : Rw)), .one (.b false)], [])
    else
     some ([.one (.l l5), .one (.b true)], [])) KK SV.undef (0 : Int) SV.undef SV.undef s1 false ([] : Rw)
def t39 : Y39 := ta39 t37 t82
def zr39 : List DV := [.one (.l []), .one (.b false)]
def zo39 : Rw := []
def A39 : List TA := [.one (.s)]
abbrev Y143 := ByteArray → Int → ByteArray → Int → Rs
def t143 (s1 : ByteArray) (n1 : Int) (s2 : ByteArray) (n2 : Int) : Rs :=
  if !(s1.toList == s2.toList) then
   some ([.one (.b false)], [])
  else
   if n1 != n2 then
    some ([.one (.b false)], [])
   else
    some ([.one (.b true)], [])
def zr143 : List DV := [.one (.b false)]
def zo143 : Rw := []
def A143 : List TA := [.agg [.s, .i .i64], .agg [.s, .i .i64]]
abbrev Y137 := Rw → Rw → Rs
def la137o1 (t143 : Y143) (l1 l2 : Rw) (b1 b2 : Bool) (q1 : Int → Bool → Bool → Rs) (q2 : Int → Bool → SV → Rs) : Nat → Int → SV → SV → Rs
  | 0, _, _, _ => none
  | m + 1, n1, v1, v2 =>
    let y1 := decide (n1 < (l1.length : Int))
    if y1 then
     let y2 := l1.getD n1.toNat []
     chk (decide (0 ≤ n1) && decide (n1 < l1.length) && isRow z129 y2) <|
     let y3 := l2.getD n1.toNat []
     chk (decide (0 ≤ n1) && decide (n1 < l2.length) && isRow z129 y3) <|
     let y4 := t143 (asS (nthD y2 0)) (asI (nthD y2 1)) (asS (nthD y3 0)) (asI (nthD y3 1))
     chk (okR zr143 zo143 y4) <|
     let y5 := !(asB (resC y4 0 0))
     if y5 then
      q1 n1 y1 y5
     else
      la137o1 t143 l1 l2 b1 b2 q1 q2 m (w64 (n1 + (1 : Int))) (.d (.b y1)) (.d (.b y5))
    else
     q2 n1 y1 (keepV [] v2)
def ta137 (t143 : Y143) (l1 l2 : Rw) : Rs :=
  let y1 := (l1.length : Int) != (l2.length : Int)
  if y1 then
   some ([.one (.b false)], [])
  else
   la137o1 t143 l1 l2 false y1
    (fun (n1 : Int) (b1 b2 : Bool) =>
     some ([.one (.b false)], []))
    (fun (n2 : Int) (b3 : Bool) (v1 : SV) =>
     some ([.one (.b true)], [])) KK (0 : Int) SV.undef SV.undef
def t137 : Y137 := ta137 t143
def zr137 : List DV := [.one (.b false)]
def zo137 : Rw := []
def A137 : List TA := [.one (.l), .one (.l)]
abbrev Y120 := Int → Int → Int → Int → Int → ByteArray → Rw → Int → Int → Int → Int → Int → Int → Int → ByteArray → Rw → Int → Int → Rs
def ta120 (t137 : Y137) (n1 n2 n3 n4 n5 : Int) (s1 : ByteArray) (l1 : Rw) (n6 n7 n8 n9 n10 n11 n12 : Int) (s2 : ByteArray) (l2 : Rw) (n13 n14 : Int) : Rs :=
  if n1 != n8 then
   some ([.one (.b false)], [])
  else
   if n2 != n9 then
    some ([.one (.b false)], [])
   else
    if n3 != n10 then
     some ([.one (.b false)], [])
    else
     if n4 != n11 then
      some ([.one (.b false)], [])
     else
      if n5 != n12 then
       some ([.one (.b false)], [])
      else
       if !(s1.toList == s2.toList) then
        some ([.one (.b false)], [])
       else
        chk (okR zr137 zo137 (t137 l1 l2)) <|
        if !(asB (resC (t137 l1 l2) 0 0)) then
         some ([.one (.b false)], [])
        else
         if n6 != n13 then
          some ([.one (.b false)], [])
         else
          if n7 != n14 then
           some ([.one (.b false)], [])
          else
           some ([.one (.b true)], [])
def t120 : Y120 := ta120 t137
def zr120 : List DV := [.one (.b false)]
def zo120 : Rw := []
def A120 : List TA := [.agg [.i .i64, .i .i64, .i .i64, .i .i64, .i .i64, .s, .l, .i .i64, .i .i64], .agg [.i .i64, .i .i64, .i .i64, .i .i64, .i .i64, .s, .l, .i .i64, .i .i64]]
abbrev Y83 := Rw → Rw → Rs
def la83o1 (t120 : Y120) (l1 l2 : Rw) (b1 b2 : Bool) (q1 : Int → Bool → Bool → Rs) (q2 : Int → Bool → SV → Rs) : Nat → Int → SV → SV → Rs
  | 0, _, _, _ => none
  | m + 1, n1, v1, v2 =>
    let y1 := decide (n1 < (l1.length : Int))
    if y1 then
     let y2 := l1.getD n1.toNat []
     chk (decide (0 ≤ n1) && decide (n1 < l1.length) && isRow z64 y2) <|
     let y3 := l2.getD n1.toNat []
     chk (decide (0 ≤ n1) && decide (n1 < l2.length) && isRow z64 y3) <|
     let y4 := t120 (asI (nthD y2 0)) (asI (nthD y2 1)) (asI (nthD y2 2)) (asI (nthD y2 3)) (asI (nthD y2 4)) (asS (nthD y2 5)) (asL (nthD y2 6)) (asI (nthD y2 7)) (asI (nthD y2 8)) (asI (nthD y3 0)) (asI (nthD y3 1)) (asI (nthD y3 2)) (asI (nthD y3 3)) (asI (nthD y3 4)) (asS (nthD y3 5)) (asL (nthD y3 6)) (asI (nthD y3 7)) (asI (nthD y3 8))
     chk (okR zr120 zo120 y4) <|
     let y5 := !(asB (resC y4 0 0))
     if y5 then
      q1 n1 y1 y5
     else
      la83o1 t120 l1 l2 b1 b2 q1 q2 m (w64 (n1 + (1 : Int))) (.d (.b y1)) (.d (.b y5))
    else
     q2 n1 y1 (keepV [] v2)
def ta83 (t120 : Y120) (l1 l2 : Rw) : Rs :=
  let y1 := (l1.length : Int) != (l2.length : Int)
  if y1 then
   some ([.one (.b false)], [])
  else
   la83o1 t120 l1 l2 false y1
    (fun (n1 : Int) (b1 b2 : Bool) =>
     some ([.one (.b false)], []))
    (fun (n2 : Int) (b3 : Bool) (v1 : SV) =>
     some ([.one (.b true)], [])) KK (0 : Int) SV.undef SV.undef
def t83 : Y83 := ta83 t120
def zr83 : List DV := [.one (.b false)]
def zo83 : Rw := []
def A83 : List TA := [.one (.l), .one (.l)]
abbrev Y42 := Int → Rw → Int → Rw → Rs
def ta42 (t83 : Y83) (n1 : Int) (l1 : Rw) (n2 : Int) (l2 : Rw) : Rs :=
  if n1 != n2 then
   some ([.one (.b false)], [])
  else
   chk (okR zr83 zo83 (t83 l1 l2)) <|
   if !(asB (resC (t83 l1 l2) 0 0)) then
    some ([.one (.b false)], [])
   else
    some ([.one (.b true)], [])
def t42 : Y42 := ta42 t83
def zr42 : List DV := [.one (.b false)]
def zo42 : Rw := []
def A42 : List TA := [.agg [.i .i64, .l], .agg [.i .i64, .l]]
abbrev Y84 := Int → Int → Int → Int → Int → Int → Int → Int → Int → Int → Rs
def t84 (n1 n2 n3 n4 n5 n6 n7 n8 n9 n10 : Int) : Rs :=
  if n1 != n6 then
   some ([.one (.b false)], [])
  else
   if n2 != n7 then
    some ([.one (.b false)], [])
   else
    if n3 != n8 then
     some ([.one (.b false)], [])
    else
     if n4 != n9 then
      some ([.one (.b false)], [])
     else
      if n5 != n10 then
       some ([.one (.b false)], [])
      else
       some ([.one (.b true)], [])
def zr84 : List DV := [.one (.b false)]
def zo84 : Rw := []
def A84 : List TA := [.agg [.i .i64, .i .i64, .i .i64, .i .i64, .i .i64], .agg [.i .i64, .i .i64, .i .i64, .i .i64, .i .i64]]
abbrev Y43 := Rw → Rw → Rs
def la43o1 (t84 : Y84) (l1 l2 : Rw) (b1 b2 : Bool) (q1 : Int → Bool → Bool → Rs) (q2 : Int → Bool → SV → Rs) : Nat → Int → SV → SV → Rs
  | 0, _, _, _ => none
  | m + 1, n1, v1, v2 =>
    let y1 := decide (n1 < (l1.length : Int))
    if y1 then
     let y2 := l1.getD n1.toNat []
     chk (decide (0 ≤ n1) && decide (n1 < l1.length) && isRow z90 y2) <|
     let y3 := l2.getD n1.toNat []
     chk (decide (0 ≤ n1) && decide (n1 < l2.length) && isRow z90 y3) <|
     let y4 := t84 (asI (nthD y2 0)) (asI (nthD y2 1)) (asI (nthD y2 2)) (asI (nthD y2 3)) (asI (nthD y2 4)) (asI (nthD y3 0)) (asI (nthD y3 1)) (asI (nthD y3 2)) (asI (nthD y3 3)) (asI (nthD y3 4))
     chk (okR zr84 zo84 y4) <|
     let y5 := !(asB (resC y4 0 0))
     if y5 then
      q1 n1 y1 y5
     else
      la43o1 t84 l1 l2 b1 b2 q1 q2 m (w64 (n1 + (1 : Int))) (.d (.b y1)) (.d (.b y5))
    else
     q2 n1 y1 (keepV [] v2)
def ta43 (t84 : Y84) (l1 l2 : Rw) : Rs :=
  let y1 := (l1.length : Int) != (l2.length : Int)
  if y1 then
   some ([.one (.b false)], [])
  else
   la43o1 t84 l1 l2 false y1
    (fun (n1 : Int) (b1 b2 : Bool) =>
     some ([.one (.b false)], []))
    (fun (n2 : Int) (b3 : Bool) (v1 : SV) =>
     some ([.one (.b true)], [])) KK (0 : Int) SV.undef SV.undef
def t43 : Y43 := ta43 t84
def zr43 : List DV := [.one (.b false)]
def zo43 : Rw := []
def A43 : List TA := [.one (.l), .one (.l)]
abbrev Y121 := Int → ByteArray → Int → ByteArray → Rs
def t121 (n1 : Int) (s1 : ByteArray) (n2 : Int) (s2 : ByteArray) : Rs :=
  if n1 != n2 then
   some ([.one (.b false)], [])
  else
   if !(s1.toList == s2.toList) then
    some ([.one (.b false)], [])
   else
    some ([.one (.b true)], [])
def zr121 : List DV := [.one (.b false)]
def zo121 : Rw := []
def A121 : List TA := [.agg [.i .i64, .s], .agg [.i .i64, .s]]
abbrev Y85 := Int → Int → Int → Int → ByteArray → Int → Int → Int → Int → ByteArray → Rs
def ta85 (t121 : Y121) (n1 n2 n3 n4 : Int) (s1 : ByteArray) (n5 n6 n7 n8 : Int) (s2 : ByteArray) : Rs :=
  if n1 != n5 then
   some ([.one (.b false)], [])
  else
   if n2 != n6 then
    some ([.one (.b false)], [])
   else
    if n3 != n7 then
     some ([.one (.b false)], [])
    else
     let y1 := t121 n4 s1 n8 s2
     chk (okR zr121 zo121 y1) <|
     if !(asB (resC y1 0 0)) then
      some ([.one (.b false)], [])
     else
      some ([.one (.b true)], [])
def t85 : Y85 := ta85 t121
def zr85 : List DV := [.one (.b false)]
def zo85 : Rw := []
def A85 : List TA := [.agg [.i .i64, .i .i64, .i .i64, .i .i64, .s], .agg [.i .i64, .i .i64, .i .i64, .i .i64, .s]]
abbrev Y44 := Rw → Rw → Rs
def la44o1 (t85 : Y85) (l1 l2 : Rw) (b1 b2 : Bool) (q1 : Int → Bool → Bool → Rs) (q2 : Int → Bool → SV → Rs) : Nat → Int → SV → SV → Rs
  | 0, _, _, _ => none
  | m + 1, n1, v1, v2 =>
    let y1 := decide (n1 < (l1.length : Int))
    if y1 then
     let y2 := l1.getD n1.toNat []
     chk (decide (0 ≤ n1) && decide (n1 < l1.length) && isRow z81 y2) <|
     let y3 := l2.getD n1.toNat []
     chk (decide (0 ≤ n1) && decide (n1 < l2.length) && isRow z81 y3) <|
     let y4 := t85 (asI (nthD y2 0)) (asI (nthD y2 1)) (asI (nthD y2 2)) (asI (nthD y2 3)) (asS (nthD y2 4)) (asI (nthD y3 0)) (asI (nthD y3 1)) (asI (nthD y3 2)) (asI (nthD y3 3)) (asS (nthD y3 4))
     chk (okR zr85 zo85 y4) <|
     let y5 := !(asB (resC y4 0 0))
     if y5 then
      q1 n1 y1 y5
     else
      la44o1 t85 l1 l2 b1 b2 q1 q2 m (w64 (n1 + (1 : Int))) (.d (.b y1)) (.d (.b y5))
    else
     q2 n1 y1 (keepV [] v2)
def ta44 (t85 : Y85) (l1 l2 : Rw) : Rs :=
  let y1 := (l1.length : Int) != (l2.length : Int)
  if y1 then
   some ([.one (.b false)], [])
  else
   la44o1 t85 l1 l2 false y1
    (fun (n1 : Int) (b1 b2 : Bool) =>
     some ([.one (.b false)], []))
    (fun (n2 : Int) (b3 : Bool) (v1 : SV) =>
     some ([.one (.b true)], [])) KK (0 : Int) SV.undef SV.undef
def t44 : Y44 := ta44 t85
def zr44 : List DV := [.one (.b false)]
def zo44 : Rw := []
def A44 : List TA := [.one (.l), .one (.l)]
abbrev Y14 := Int → Rw → Int → Rw → Rw → Int → Rw → Int → Rw → Rw → Rs
def ta14 (t42 : Y42) (t43 : Y43) (t44 : Y44) (n1 : Int) (l1 : Rw) (n2 : Int) (l2 l3 : Rw) (n3 : Int) (l4 : Rw) (n4 : Int) (l5 l6 : Rw) : Rs :=
  let y1 := t42 n1 l1 n3 l4
  chk (okR zr42 zo42 y1) <|
  if !(asB (resC y1 0 0)) then
   some ([.one (.b false)], [])
  else
   if n2 != n4 then
    some ([.one (.b false)], [])
   else
    chk (okR zr43 zo43 (t43 l2 l5)) <|
    if !(asB (resC (t43 l2 l5) 0 0)) then
     some ([.one (.b false)], [])
    else
     chk (okR zr44 zo44 (t44 l3 l6)) <|
     if !(asB (resC (t44 l3 l6) 0 0)) then
      some ([.one (.b false)], [])
     else
      some ([.one (.b true)], [])
def t14 : Y14 := ta14 t42 t43 t44
def zr14 : List DV := [.one (.b false)]
def zo14 : Rw := []
def A14 : List TA := [.agg [.i .i64, .l, .i .i64, .l, .l], .agg [.i .i64, .l, .i .i64, .l, .l]]
abbrev Y19 := Rw → Rw → Rs
def la19o1 (t14 : Y14) (l1 l2 : Rw) (b1 b2 : Bool) (q1 : Int → Bool → Bool → Rs) (q2 : Int → Bool → SV → Rs) : Nat → Int → SV → SV → Rs
  | 0, _, _, _ => none
  | m + 1, n1, v1, v2 =>
    let y1 := decide (n1 < (l1.length : Int))
    if y1 then
     let y2 := l1.getD n1.toNat []
     chk (decide (0 ≤ n1) && decide (n1 < l1.length) && isRow z28 y2) <|
     let y3 := l2.getD n1.toNat []
     chk (decide (0 ≤ n1) && decide (n1 < l2.length) && isRow z28 y3) <|
     let y4 := t14 (asI (nthD y2 0)) (asL (nthD y2 1)) (asI (nthD y2 2)) (asL (nthD y2 3)) (asL (nthD y2 4)) (asI (nthD y3 0)) (asL (nthD y3 1)) (asI (nthD y3 2)) (asL (nthD y3 3)) (asL (nthD y3 4))
     chk (okR zr14 zo14 y4) <|
     let y5 := !(asB (resC y4 0 0))
     if y5 then
      q1 n1 y1 y5
     else
      la19o1 t14 l1 l2 b1 b2 q1 q2 m (w64 (n1 + (1 : Int))) (.d (.b y1)) (.d (.b y5))
    else
     q2 n1 y1 (keepV [] v2)
def ta19 (t14 : Y14) (l1 l2 : Rw) : Rs :=
  let y1 := (l1.length : Int) != (l2.length : Int)
  if y1 then
   some ([.one (.b false)], [])
  else
   la19o1 t14 l1 l2 false y1
    (fun (n1 : Int) (b1 b2 : Bool) =>
     some ([.one (.b false)], []))
    (fun (n2 : Int) (b3 : Bool) (v1 : SV) =>
     some ([.one (.b true)], [])) KK (0 : Int) SV.undef SV.undef
def t19 : Y19 := ta19 t14
def zr19 : List DV := [.one (.b false)]
def zo19 : Rw := []
def A19 : List TA := [.one (.l), .one (.l)]
abbrev Y86 := Int → Rs
def l86o1 (s1 : ByteArray) (b1 : Bool) (q1 : Int → ByteArray → Bool → Rs) : Nat → Int → ByteArray → SV → Rs
  | 0, _, _, _ => none
  | m + 1, n1, s2, v1 =>
    let y1 := decide (n1 > (0 : Int))
    if y1 then
     let y2 := ([[.i .u8 (IntKind.wrap .u8 (w64 ((48 : Int) + (n1.tmod (10 : Int)))))]] : Rw)
     chk (isBytes y2) <|
     let y3 := ⟨(bytesD y2).toArray⟩
     chk (decide (y3.size + s2.size ≤ lim)) <|
     l86o1 s1 b1 q1 m (w64 (n1.tdiv (10 : Int))) (y3 ++ s2) (.d (.b y1))
    else
     q1 n1 s2 y1
def t86 (n1 : Int) : Rs :=
  let y1 := decide (n1 ≤ (0 : Int))
  if y1 then
   some ([.one (.s (⟨#[109, 48]⟩ : ByteArray))], [])
  else
   l86o1 (⟨#[]⟩ : ByteArray) y1
    (fun (n2 : Int) (s1 : ByteArray) (b1 : Bool) =>
     chk (decide ((⟨#[109]⟩ : ByteArray).size + s1.size ≤ lim)) <|
     some ([.one (.s ((⟨#[109]⟩ : ByteArray) ++ s1))], [])) KK n1 (⟨#[]⟩ : ByteArray) SV.undef
def zr86 : List DV := [.one (.s ⟨#[]⟩)]
def zo86 : Rw := []
def A86 : List TA := [.one (.i .i64)]
abbrev Y87 := Rw → Int → Rs
def la87o0 (t86 : Y86) (n1 : Int) (q1 : Int → Int → Bool → Rw → Rs) : Nat → Int → Int → SV → Rw → Rs
  | 0, _, _, _, _ => none
  | m + 1, n2, n3, v1, l1 =>
    let y1 := decide (n3 < (l1.length : Int))
    if y1 then
     chk (okR zr86 zo86 (t86 n2)) <|
     chk (decide (0 ≤ n3) && decide (n3 < l1.length)) <|
     chk (decide (1 ≤ 2 ∧ (n3.toNat) < l1.length)) <|
     let y2 := stR l1 (n3.toNat) 0 [.s (asS (resC (t86 n2) 0 0))]
     chk (decide (0 ≤ n3) && decide (n3 < y2.length)) <|
     chk (decide (2 ≤ 2 ∧ (n3.toNat) < y2.length)) <|
     let y3 := w64 (n2 + (1 : Int))
     la87o0 t86 n1 q1 m (w64 (y3 + (1 : Int))) (w64 (n3 + (1 : Int))) (.d (.b y1)) (stR y2 (n3.toNat) 1 [.i .i64 y3])
    else
     q1 n2 n3 y1 l1
def ta87 (t86 : Y86) (l1 : Rw) (n1 : Int) : Rs :=
  la87o0 t86 (0 : Int)
   (fun (n2 n3 : Int) (b1 : Bool) (l2 : Rw) =>
    some ([.one (.i .i64 n2)], [[.l l2]])) KK n1 (0 : Int) SV.undef l1
def t87 : Y87 := ta87 t86
def zr87 : List DV := [.one (.i .i64 0)]
def zo87 : Rw := [[.l []]]
def A87 : List TA := [.one (.l), .one (.i .i64)]
abbrev Y51 := Rw → Int → Rs
def la51o0 (t86 : Y86) (t87 : Y87) (n1 : Int) (q1 : Int → Int → Bool → Rw → Rs) : Nat → Int → Int → SV → Rw → Rs
  | 0, _, _, _, _ => none
  | m + 1, n2, n3, v1, l1 =>
    let y1 := decide (n3 < (l1.length : Int))
    if y1 then
     chk (decide (0 ≤ n3) && decide (n3 < l1.length)) <|
     chk (decide (1 ≤ 9 ∧ (n3.toNat) < l1.length)) <|
     let y2 := stR l1 (n3.toNat) 0 [.i .i64 n2]
     chk (decide (0 ≤ n3) && decide (n3 < y2.length)) <|
     chk (decide (2 ≤ 9 ∧ (n3.toNat) < y2.length)) <|
     let y3 := w64 (n2 + (1 : Int))
     let y4 := stR y2 (n3.toNat) 1 [.i .i64 y3]
     chk (decide (0 ≤ n3) && decide (n3 < y4.length)) <|
     chk (decide (3 ≤ 9 ∧ (n3.toNat) < y4.length)) <|
     let y5 := w64 (y3 + (1 : Int))
     let y6 := stR y4 (n3.toNat) 2 [.i .i64 y5]
     chk (decide (0 ≤ n3) && decide (n3 < y6.length)) <|
     chk (decide (4 ≤ 9 ∧ (n3.toNat) < y6.length)) <|
     let y7 := w64 (y5 + (1 : Int))
     let y8 := stR y6 (n3.toNat) 3 [.i .i64 y7]
     chk (decide (0 ≤ n3) && decide (n3 < y8.length)) <|
     chk (decide (5 ≤ 9 ∧ (n3.toNat) < y8.length)) <|
     let y9 := w64 (y7 + (1 : Int))
     let y10 := w64 (y9 + (1 : Int))
     let y11 := t86 y10
     chk (okR zr86 zo86 y11) <|
     let y12 := stR y8 (n3.toNat) 4 [.i .i64 y9]
     chk (decide (0 ≤ n3) && decide (n3 < y12.length)) <|
     chk (decide (6 ≤ 9 ∧ (n3.toNat) < y12.length)) <|
     let y13 := stR y12 (n3.toNat) 5 [.s (asS (resC y11 0 0))]
     chk (decide (0 ≤ n3) && decide (n3 < y13.length)) <|
     let y14 := y13.getD (n3.toNat) []
     let y15 := asL (nthD y14 6)
     let y16 := t87 y15 (w64 (y10 + (1 : Int)))
     chk (okR zr87 zo87 y16 && (decide (6 + 1 ≤ y14.length) && isF [.l []] 6 y14 && fstSz 2 y15)) <|
     let y17 := stR y13 (n3.toNat) 6 [.l (asL (outC y16 0 0))]
     chk (decide (0 ≤ n3) && decide (n3 < y17.length)) <|
     chk (decide (8 ≤ 9 ∧ (n3.toNat) < y17.length)) <|
     let y18 := asI (resC y16 0 0)
     let y19 := stR y17 (n3.toNat) 7 [.i .i64 y18]
     chk (decide (0 ≤ n3) && decide (n3 < y19.length)) <|
     chk (decide (9 ≤ 9 ∧ (n3.toNat) < y19.length)) <|
     let y20 := w64 (y18 + (1 : Int))
     la51o0 t86 t87 n1 q1 m (w64 (y20 + (1 : Int))) (w64 (n3 + (1 : Int))) (.d (.b y1)) (stR y19 (n3.toNat) 8 [.i .i64 y20])
    else
     q1 n2 n3 y1 l1
def ta51 (t86 : Y86) (t87 : Y87) (l1 : Rw) (n1 : Int) : Rs :=
  la51o0 t86 t87 (0 : Int)
   (fun (n2 n3 : Int) (b1 : Bool) (l2 : Rw) =>
    some ([.one (.i .i64 n2)], [[.l l2]])) KK n1 (0 : Int) SV.undef l1
def t51 : Y51 := ta51 t86 t87
def zr51 : List DV := [.one (.i .i64 0)]
def zo51 : Rw := [[.l []]]
def A51 : List TA := [.one (.l), .one (.i .i64)]
abbrev Y46 := Rw → Int → Rs
def l46o0 (n1 : Int) (q1 : Int → Int → Bool → Rw → Rs) : Nat → Int → Int → SV → Rw → Rs
  | 0, _, _, _, _ => none
  | m + 1, n2, n3, v1, l1 =>
    let y1 := decide (n3 < (l1.length : Int))
    if y1 then
     chk (decide (0 ≤ n3) && decide (n3 < l1.length)) <|
     chk (decide (1 ≤ 5 ∧ (n3.toNat) < l1.length)) <|
     let y2 := stR l1 (n3.toNat) 0 [.i .i64 n2]
     chk (decide (0 ≤ n3) && decide (n3 < y2.length)) <|
     chk (decide (2 ≤ 5 ∧ (n3.toNat) < y2.length)) <|
     let y3 := w64 (n2 + (1 : Int))
     let y4 := stR y2 (n3.toNat) 1 [.i .i64 y3]
     chk (decide (0 ≤ n3) && decide (n3 < y4.length)) <|
     chk (decide (3 ≤ 5 ∧ (n3.toNat) < y4.length)) <|
     let y5 := w64 (y3 + (1 : Int))
     let y6 := stR y4 (n3.toNat) 2 [.i .i64 y5]
     chk (decide (0 ≤ n3) && decide (n3 < y6.length)) <|
     chk (decide (4 ≤ 5 ∧ (n3.toNat) < y6.length)) <|
     let y7 := w64 (y5 + (1 : Int))
     let y8 := stR y6 (n3.toNat) 3 [.i .i64 y7]
     chk (decide (0 ≤ n3) && decide (n3 < y8.length)) <|
     chk (decide (5 ≤ 5 ∧ (n3.toNat) < y8.length)) <|
     let y9 := w64 (y7 + (1 : Int))
     l46o0 n1 q1 m (w64 (y9 + (1 : Int))) (w64 (n3 + (1 : Int))) (.d (.b y1)) (stR y8 (n3.toNat) 4 [.i .i64 y9])
    else
     q1 n2 n3 y1 l1
def t46 (l1 : Rw) (n1 : Int) : Rs :=
  l46o0 (0 : Int)
   (fun (n2 n3 : Int) (b1 : Bool) (l2 : Rw) =>
    some ([.one (.i .i64 n2)], [[.l l2]])) KK n1 (0 : Int) SV.undef l1
def zr46 : List DV := [.one (.i .i64 0)]
def zo46 : Rw := [[.l []]]
def A46 : List TA := [.one (.l), .one (.i .i64)]
abbrev Y47 := Rw → Int → Rs
def la47o0 (t86 : Y86) (n1 : Int) (q1 : Int → Int → Bool → Rw → Rs) : Nat → Int → Int → SV → Rw → Rs
  | 0, _, _, _, _ => none
  | m + 1, n2, n3, v1, l1 =>
    let y1 := decide (n3 < (l1.length : Int))
    if y1 then
     chk (decide (0 ≤ n3) && decide (n3 < l1.length)) <|
     chk (decide (1 ≤ 5 ∧ (n3.toNat) < l1.length)) <|
     let y2 := stR l1 (n3.toNat) 0 [.i .i64 n2]
     chk (decide (0 ≤ n3) && decide (n3 < y2.length)) <|
     chk (decide (2 ≤ 5 ∧ (n3.toNat) < y2.length)) <|
     let y3 := w64 (n2 + (1 : Int))
     let y4 := stR y2 (n3.toNat) 1 [.i .i64 y3]
     chk (decide (0 ≤ n3) && decide (n3 < y4.length)) <|
     chk (decide (3 ≤ 5 ∧ (n3.toNat) < y4.length)) <|
     let y5 := w64 (y3 + (1 : Int))
     let y6 := stR y4 (n3.toNat) 2 [.i .i64 y5]
     chk (decide (0 ≤ n3) && decide (n3 < y6.length)) <|
     chk (decide (4 ≤ 5 ∧ (n3.toNat) < y6.length)) <|
     let y7 := w64 (y5 + (1 : Int))
     let y8 := w64 (y7 + (1 : Int))
     let y9 := t86 y8
     chk (okR zr86 zo86 y9) <|
     let y10 := stR y6 (n3.toNat) 3 [.i .i64 y7]
     chk (decide (0 ≤ n3) && decide (n3 < y10.length)) <|
     chk (decide (5 ≤ 5 ∧ (n3.toNat) < y10.length)) <|
     la47o0 t86 n1 q1 m (w64 (y8 + (1 : Int))) (w64 (n3 + (1 : Int))) (.d (.b y1)) (stR y10 (n3.toNat) 4 [.s (asS (resC y9 0 0))])
    else
     q1 n2 n3 y1 l1
def ta47 (t86 : Y86) (l1 : Rw) (n1 : Int) : Rs :=
  la47o0 t86 (0 : Int)
   (fun (n2 n3 : Int) (b1 : Bool) (l2 : Rw) =>
    some ([.one (.i .i64 n2)], [[.l l2]])) KK n1 (0 : Int) SV.undef l1
def t47 : Y47 := ta47 t86
def zr47 : List DV := [.one (.i .i64 0)]
def zo47 : Rw := [[.l []]]
def A47 : List TA := [.one (.l), .one (.i .i64)]
abbrev Y20 := Rw → Int → Rs
def la20o0 (t46 : Y46) (t47 : Y47) (t51 : Y51) (n1 : Int) (q1 : Int → Int → Bool → Rw → Rs) : Nat → Int → Int → SV → Rw → Rs
  | 0, _, _, _, _ => none
  | m + 1, n2, n3, v1, l1 =>
    let y1 := decide (n3 < (l1.length : Int))
    if y1 then
     chk (decide (0 ≤ n3) && decide (n3 < l1.length)) <|
     chk (decide (1 ≤ 5 ∧ (n3.toNat) < l1.length)) <|
     let y2 := stR l1 (n3.toNat) 0 [.i .i64 n2]
     chk (decide (0 ≤ n3) && decide (n3 < y2.length)) <|
     let y3 := y2.getD (n3.toNat) []
     let y4 := asL (nthD y3 1)
     let y5 := t51 y4 (w64 (n2 + (1 : Int)))
     chk (okR zr51 zo51 y5 && (decide (1 + 1 ≤ y3.length) && isF [.l []] 1 y3 && fstSz 9 y4)) <|
     let y6 := stR y2 (n3.toNat) 1 [.l (asL (outC y5 0 0))]
     chk (decide (0 ≤ n3) && decide (n3 < y6.length)) <|
     chk (decide (3 ≤ 5 ∧ (n3.toNat) < y6.length)) <|
     let y7 := asI (resC y5 0 0)
     let y8 := stR y6 (n3.toNat) 2 [.i .i64 y7]
     chk (decide (0 ≤ n3) && decide (n3 < y8.length)) <|
     let y9 := y8.getD (n3.toNat) []
     let y10 := asL (nthD y9 3)
     let y11 := t46 y10 (w64 (y7 + (1 : Int)))
     chk (okR zr46 zo46 y11 && (decide (3 + 1 ≤ y9.length) && isF [.l []] 3 y9 && fstSz 5 y10)) <|
     let y12 := stR y8 (n3.toNat) 3 [.l (asL (outC y11 0 0))]
     chk (decide (0 ≤ n3) && decide (n3 < y12.length)) <|
     let y13 := y12.getD (n3.toNat) []
     let y14 := asL (nthD y13 4)
     let y15 := t47 y14 (asI (resC y11 0 0))
     chk (okR zr47 zo47 y15 && (decide (4 + 1 ≤ y13.length) && isF [.l []] 4 y13 && fstSz 5 y14)) <|
     la20o0 t46 t47 t51 n1 q1 m (asI (resC y15 0 0)) (w64 (n3 + (1 : Int))) (.d (.b y1)) (stR y12 (n3.toNat) 4 [.l (asL (outC y15 0 0))])
    else
     q1 n2 n3 y1 l1
def ta20 (t46 : Y46) (t47 : Y47) (t51 : Y51) (l1 : Rw) (n1 : Int) : Rs :=
  la20o0 t46 t47 t51 (0 : Int)
   (fun (n2 n3 : Int) (b1 : Bool) (l2 : Rw) =>
    some ([.one (.i .i64 n2)], [[.l l2]])) KK n1 (0 : Int) SV.undef l1
def t20 : Y20 := ta20 t46 t47 t51
def zr20 : List DV := [.one (.i .i64 0)]
def zo20 : Rw := [[.l []]]
def A20 : List TA := [.one (.l), .one (.i .i64)]
abbrev Y88 := Rw → Int → Rs
def la88o0 (t86 : Y86) (l1 : Rw) (n1 : Int) (q1 : Int → Int → Bool → Bool → SV → Rs) (q2 : Int → Int → Bool → Bool → Bool → Rs) (q3 : Int → Int → Bool → SV → SV → Rs) : Nat → Int → Int → SV → SV → SV → Rs
  | 0, _, _, _, _, _ => none
  | m + 1, n2, n3, v1, v2, v3 =>
    let y1 := decide (n3 < (l1.length : Int))
    if y1 then
     let y2 := l1.getD n3.toNat []
     chk (decide (0 ≤ n3) && decide (n3 < l1.length) && isRow z129 y2) <|
     chk (okR zr86 zo86 (t86 n2)) <|
     let y3 := !((asS (nthD y2 0)).toList == (asS (resC (t86 n2) 0 0)).toList)
     if y3 then
      q1 n2 n3 y1 y3 v3
     else
      let y4 := l1.getD n3.toNat []
      chk (decide (0 ≤ n3) && decide (n3 < l1.length) && isRow z129 y4) <|
      let y5 := w64 (n2 + (1 : Int))
      let y6 := (asI (nthD y4 1)) != y5
      if y6 then
       q2 y5 n3 y1 y3 y6
      else
       la88o0 t86 l1 n1 q1 q2 q3 m (w64 (y5 + (1 : Int))) (w64 (n3 + (1 : Int))) (.d (.b y1)) (.d (.b y3)) (.d (.b y6))
    else
     q3 n2 n3 y1 (keepV [] v2) (keepV [] v3)
def ta88 (t86 : Y86) (l1 : Rw) (n1 : Int) : Rs :=
  la88o0 t86 l1 (0 : Int)
   (fun (n2 n3 : Int) (b1 b2 : Bool) (v1 : SV) =>
    some ([.one (.i .i64 (-1 : Int))], []))
   (fun (n4 n5 : Int) (b3 b4 b5 : Bool) =>
    some ([.one (.i .i64 (-1 : Int))], []))
   (fun (n6 n7 : Int) (b6 : Bool) (v2 v3 : SV) =>
    some ([.one (.i .i64 n6)], [])) KK n1 (0 : Int) SV.undef SV.undef SV.undef
def t88 : Y88 := ta88 t86
def zr88 : List DV := [.one (.i .i64 0)]
def zo88 : Rw := []
def A88 : List TA := [.one (.l), .one (.i .i64)]
abbrev Y52 := Rw → Int → Rs
def la52o0 (t86 : Y86) (t88 : Y88) (l1 : Rw) (n1 : Int) (q1 : Int → Int → Bool → Bool → SV → SV → SV → SV → SV → SV → SV → SV → Rs) (q2 : Int → Int → Bool → Bool → Bool → SV → SV → SV → SV → SV → SV → SV → Rs) (q3 : Int → Int → Bool → Bool → Bool → Bool → SV → SV → SV → SV → SV → SV → Rs) (q4 : Int → Int → Bool → Bool → Bool → Bool → Bool → SV → SV → SV → SV → SV → Rs) (q5 : Int → Int → Bool → Bool → Bool → Bool → Bool → Bool → SV → SV → SV → SV → Rs) (q6 : Int → Int → Bool → Bool → Bool → Bool → Bool → Bool → Bool → SV → SV → SV → Rs) (q7 : Int → Int → Bool → Bool → Bool → Bool → Bool → Bool → Bool → Bool → SV → SV → Rs) (q8 : Int → Int → Bool → Bool → Bool → Bool → Bool → Bool → Bool → Bool → Bool → SV → Rs) (q9 : Int → Int → Bool → Bool → Bool → Bool → Bool → Bool → Bool → Bool → Bool → Bool → Rs) (q10 : Int → Int → Bool → SV → SV → SV → SV → SV → SV → SV → SV → SV → Rs) : Nat → Int → Int → SV → SV → SV → SV → SV → SV → SV → SV → SV → SV → Rs
  | 0, _, _, _, _, _, _, _, _, _, _, _, _ => none
  | m + 1, n2, n3, v1, v2, v3, v4, v5, v6, v7, v8, v9, v10 =>
    let y1 := decide (n3 < (l1.length : Int))
    if y1 then
     let y2 := l1.getD n3.toNat []
     chk (decide (0 ≤ n3) && decide (n3 < l1.length) && isRow z64 y2) <|
     let y3 := (asI (nthD y2 0)) != n2
     if y3 then
      q1 n2 n3 y1 y3 v3 v4 v5 v6 v7 v8 v9 v10
     else
      let y4 := l1.getD n3.toNat []
      chk (decide (0 ≤ n3) && decide (n3 < l1.length) && isRow z64 y4) <|
      let y5 := w64 (n2 + (1 : Int))
      let y6 := (asI (nthD y4 1)) != y5
      if y6 then
       q2 y5 n3 y1 y3 y6 v4 v5 v6 v7 v8 v9 v10
      else
       let y7 := l1.getD n3.toNat []
       chk (decide (0 ≤ n3) && decide (n3 < l1.length) && isRow z64 y7) <|
       let y8 := w64 (y5 + (1 : Int))
       let y9 := (asI (nthD y7 2)) != y8
       if y9 then
        q3 y8 n3 y1 y3 y6 y9 v5 v6 v7 v8 v9 v10
       else
        let y10 := l1.getD n3.toNat []
        chk (decide (0 ≤ n3) && decide (n3 < l1.length) && isRow z64 y10) <|
        let y11 := w64 (y8 + (1 : Int))
        let y12 := (asI (nthD y10 3)) != y11
        if y12 then
         q4 y11 n3 y1 y3 y6 y9 y12 v6 v7 v8 v9 v10
        else
         let y13 := l1.getD n3.toNat []
         chk (decide (0 ≤ n3) && decide (n3 < l1.length) && isRow z64 y13) <|
         let y14 := w64 (y11 + (1 : Int))
         let y15 := (asI (nthD y13 4)) != y14
         if y15 then
          q5 y14 n3 y1 y3 y6 y9 y12 y15 v7 v8 v9 v10
         else
          let y16 := l1.getD n3.toNat []
          chk (decide (0 ≤ n3) && decide (n3 < l1.length) && isRow z64 y16) <|
          let y17 := w64 (y14 + (1 : Int))
          let y18 := t86 y17
          chk (okR zr86 zo86 y18) <|
          let y19 := !((asS (nthD y16 5)).toList == (asS (resC y18 0 0)).toList)
          if y19 then
           q6 y17 n3 y1 y3 y6 y9 y12 y15 y19 v8 v9 v10
          else
           let y20 := l1.getD n3.toNat []
           chk (decide (0 ≤ n3) && decide (n3 < l1.length) && isRow z64 y20) <|
           let y21 := t88 (asL (nthD y20 6)) (w64 (y17 + (1 : Int)))
           chk (okR zr88 zo88 y21) <|
           let y22 := asI (resC y21 0 0)
           let y23 := decide (y22 < (0 : Int))
           if y23 then
            q7 y22 n3 y1 y3 y6 y9 y12 y15 y19 y23 v9 v10
           else
            let y24 := l1.getD n3.toNat []
            chk (decide (0 ≤ n3) && decide (n3 < l1.length) && isRow z64 y24) <|
            let y25 := (asI (nthD y24 7)) != y22
            if y25 then
             q8 y22 n3 y1 y3 y6 y9 y12 y15 y19 y23 y25 v10
            else
             let y26 := l1.getD n3.toNat []
             chk (decide (0 ≤ n3) && decide (n3 < l1.length) && isRow z64 y26) <|
             let y27 := w64 (y22 + (1 : Int))
             let y28 := (asI (nthD y26 8)) != y27
             if y28 then
              q9 y27 n3 y1 y3 y6 y9 y12 y15 y19 y23 y25 y28
             else
              la52o0 t86 t88 l1 n1 q1 q2 q3 q4 q5 q6 q7 q8 q9 q10 m (w64 (y27 + (1 : Int))) (w64 (n3 + (1 : Int))) (.d (.b y1)) (.d (.b y3)) (.d (.b y6)) (.d (.b y9)) (.d (.b y12)) (.d (.b y15)) (.d (.b y19)) (.d (.b y23)) (.d (.b y25)) (.d (.b y28))
    else
     q10 n2 n3 y1 (keepV [] v2) (keepV [] v3) (keepV [] v4) (keepV [] v5) (keepV [] v6) (keepV [] v7) (keepV [] v8) (keepV [] v9) (keepV [] v10)
def ta52 (t86 : Y86) (t88 : Y88) (l1 : Rw) (n1 : Int) : Rs :=
  la52o0 t86 t88 l1 (0 : Int)
   (fun (n2 n3 : Int) (b1 b2 : Bool) (v1 v2 v3 v4 v5 v6 v7 v8 : SV) =>
    some ([.one (.i .i64 (-1 : Int))], []))
   (fun (n4 n5 : Int) (b3 b4 b5 : Bool) (v9 v10 v11 v12 v13 v14 v15 : SV) =>
    some ([.one (.i .i64 (-1 : Int))], []))
   (fun (n6 n7 : Int) (b6 b7 b8 b9 : Bool) (v16 v17 v18 v19 v20 v21 : SV) =>
    some ([.one (.i .i64 (-1 : Int))], []))
   (fun (n8 n9 : Int) (b10 b11 b12 b13 b14 : Bool) (v22 v23 v24 v25 v26 : SV) =>
    some ([.one (.i .i64 (-1 : Int))], []))
   (fun (n10 n11 : Int) (b15 b16 b17 b18 b19 b20 : Bool) (v27 v28 v29 v30 : SV) =>
    some ([.one (.i .i64 (-1 : Int))], []))
   (fun (n12 n13 : Int) (b21 b22 b23 b24 b25 b26 b27 : Bool) (v31 v32 v33 : SV) =>
    some ([.one (.i .i64 (-1 : Int))], []))
   (fun (n14 n15 : Int) (b28 b29 b30 b31 b32 b33 b34 b35 : Bool) (v34 v35 : SV) =>
    some ([.one (.i .i64 (-1 : Int))], []))
   (fun (n16 n17 : Int) (b36 b37 b38 b39 b40 b41 b42 b43 b44 : Bool) (v36 : SV) =>
    some ([.one (.i .i64 (-1 : Int))], []))
   (fun (n18 n19 : Int) (b45 b46 b47 b48 b49 b50 b51 b52 b53 b54 : Bool) =>
    some ([.one (.i .i64 (-1 : Int))], []))
   (fun (n20 n21 : Int) (b55 : Bool) (v37 v38 v39 v40 v41 v42 v43 v44 v45 : SV) =>
    some ([.one (.i .i64 n20)], [])) KK n1 (0 : Int) SV.undef SV.undef SV.undef SV.undef SV.undef SV.undef SV.undef SV.undef SV.undef SV.undef
def t52 : Y52 := ta52 t86 t88
def zr52 : List DV := [.one (.i .i64 0)]
def zo52 : Rw := []
def A52 : List TA := [.one (.l), .one (.i .i64)]
abbrev Y49 := Rw → Int → Rs
def l49o0 (l1 : Rw) (n1 : Int) (q1 : Int → Int → Bool → Bool → SV → SV → SV → SV → Rs) (q2 : Int → Int → Bool → Bool → Bool → SV → SV → SV → Rs) (q3 : Int → Int → Bool → Bool → Bool → Bool → SV → SV → Rs) (q4 : Int → Int → Bool → Bool → Bool → Bool → Bool → SV → Rs) (q5 : Int → Int → Bool → Bool → Bool → Bool → Bool → Bool → Rs) (q6 : Int → Int → Bool → SV → SV → SV → SV → SV → Rs) : Nat → Int → Int → SV → SV → SV → SV → SV → SV → Rs
  | 0, _, _, _, _, _, _, _, _ => none
  | m + 1, n2, n3, v1, v2, v3, v4, v5, v6 =>
    let y1 := decide (n3 < (l1.length : Int))
    if y1 then
     let y2 := l1.getD n3.toNat []
     chk (decide (0 ≤ n3) && decide (n3 < l1.length) && isRow z90 y2) <|
     let y3 := (asI (nthD y2 0)) != n2
     if y3 then
      q1 n2 n3 y1 y3 v3 v4 v5 v6
     else
      let y4 := l1.getD n3.toNat []
      chk (decide (0 ≤ n3) && decide (n3 < l1.length) && isRow z90 y4) <|
      let y5 := w64 (n2 + (1 : Int))
      let y6 := (asI (nthD y4 1)) != y5
      if y6 then
       q2 y5 n3 y1 y3 y6 v4 v5 v6
      else
       let y7 := l1.getD n3.toNat []
       chk (decide (0 ≤ n3) && decide (n3 < l1.length) && isRow z90 y7) <|
       let y8 := w64 (y5 + (1 : Int))
       let y9 := (asI (nthD y7 2)) != y8
       if y9 then
        q3 y8 n3 y1 y3 y6 y9 v5 v6
       else
        let y10 := l1.getD n3.toNat []
        chk (decide (0 ≤ n3) && decide (n3 < l1.length) && isRow z90 y10) <|
        let y11 := w64 (y8 + (1 : Int))
        let y12 := (asI (nthD y10 3)) != y11
        if y12 then
         q4 y11 n3 y1 y3 y6 y9 y12 v6
        else
         let y13 := l1.getD n3.toNat []
         chk (decide (0 ≤ n3) && decide (n3 < l1.length) && isRow z90 y13) <|
         let y14 := w64 (y11 + (1 : Int))
         let y15 := (asI (nthD y13 4)) != y14
         if y15 then
          q5 y14 n3 y1 y3 y6 y9 y12 y15
         else
          l49o0 l1 n1 q1 q2 q3 q4 q5 q6 m (w64 (y14 + (1 : Int))) (w64 (n3 + (1 : Int))) (.d (.b y1)) (.d (.b y3)) (.d (.b y6)) (.d (.b y9)) (.d (.b y12)) (.d (.b y15))
    else
     q6 n2 n3 y1 (keepV [] v2) (keepV [] v3) (keepV [] v4) (keepV [] v5) (keepV [] v6)
def t49 (l1 : Rw) (n1 : Int) : Rs :=
  l49o0 l1 (0 : Int)
   (fun (n2 n3 : Int) (b1 b2 : Bool) (v1 v2 v3 v4 : SV) =>
    some ([.one (.i .i64 (-1 : Int))], []))
   (fun (n4 n5 : Int) (b3 b4 b5 : Bool) (v5 v6 v7 : SV) =>
    some ([.one (.i .i64 (-1 : Int))], []))
   (fun (n6 n7 : Int) (b6 b7 b8 b9 : Bool) (v8 v9 : SV) =>
    some ([.one (.i .i64 (-1 : Int))], []))
   (fun (n8 n9 : Int) (b10 b11 b12 b13 b14 : Bool) (v10 : SV) =>
    some ([.one (.i .i64 (-1 : Int))], []))
   (fun (n10 n11 : Int) (b15 b16 b17 b18 b19 b20 : Bool) =>
    some ([.one (.i .i64 (-1 : Int))], []))
   (fun (n12 n13 : Int) (b21 : Bool) (v11 v12 v13 v14 v15 : SV) =>
    some ([.one (.i .i64 n12)], [])) KK n1 (0 : Int) SV.undef SV.undef SV.undef SV.undef SV.undef SV.undef
def zr49 : List DV := [.one (.i .i64 0)]
def zo49 : Rw := []
def A49 : List TA := [.one (.l), .one (.i .i64)]
abbrev Y50 := Rw → Int → Rs
def la50o0 (t86 : Y86) (l1 : Rw) (n1 : Int) (q1 : Int → Int → Bool → Bool → SV → SV → SV → SV → Rs) (q2 : Int → Int → Bool → Bool → Bool → SV → SV → SV → Rs) (q3 : Int → Int → Bool → Bool → Bool → Bool → SV → SV → Rs) (q4 : Int → Int → Bool → Bool → Bool → Bool → Bool → SV → Rs) (q5 : Int → Int → Bool → Bool → Bool → Bool → Bool → Bool → Rs) (q6 : Int → Int → Bool → SV → SV → SV → SV → SV → Rs) : Nat → Int → Int → SV → SV → SV → SV → SV → SV → Rs
  | 0, _, _, _, _, _, _, _, _ => none
  | m + 1, n2, n3, v1, v2, v3, v4, v5, v6 =>
    let y1 := decide (n3 < (l1.length : Int))
    if y1 then
     let y2 := l1.getD n3.toNat []
     chk (decide (0 ≤ n3) && decide (n3 < l1.length) && isRow z81 y2) <|
     let y3 := (asI (nthD y2 0)) != n2
     if y3 then
      q1 n2 n3 y1 y3 v3 v4 v5 v6
     else
      let y4 := l1.getD n3.toNat []
      chk (decide (0 ≤ n3) && decide (n3 < l1.length) && isRow z81 y4) <|
      let y5 := w64 (n2 + (1 : Int))
      let y6 := (asI (nthD y4 1)) != y5
      if y6 then
       q2 y5 n3 y1 y3 y6 v4 v5 v6
      else
       let y7 := l1.getD n3.toNat []
       chk (decide (0 ≤ n3) && decide (n3 < l1.length) && isRow z81 y7) <|
       let y8 := w64 (y5 + (1 : Int))
       let y9 := (asI (nthD y7 2)) != y8
       if y9 then
        q3 y8 n3 y1 y3 y6 y9 v5 v6
       else
        let y10 := l1.getD n3.toNat []
        chk (decide (0 ≤ n3) && decide (n3 < l1.length) && isRow z81 y10) <|
        let y11 := w64 (y8 + (1 : Int))
        let y12 := (asI (nthD y10 3)) != y11
        if y12 then
         q4 y11 n3 y1 y3 y6 y9 y12 v6
        else
         let y13 := l1.getD n3.toNat []
         chk (decide (0 ≤ n3) && decide (n3 < l1.length) && isRow z81 y13) <|
         let y14 := w64 (y11 + (1 : Int))
         let y15 := t86 y14
         chk (okR zr86 zo86 y15) <|
         let y16 := !((asS (nthD y13 4)).toList == (asS (resC y15 0 0)).toList)
         if y16 then
          q5 y14 n3 y1 y3 y6 y9 y12 y16
         else
          la50o0 t86 l1 n1 q1 q2 q3 q4 q5 q6 m (w64 (y14 + (1 : Int))) (w64 (n3 + (1 : Int))) (.d (.b y1)) (.d (.b y3)) (.d (.b y6)) (.d (.b y9)) (.d (.b y12)) (.d (.b y16))
    else
     q6 n2 n3 y1 (keepV [] v2) (keepV [] v3) (keepV [] v4) (keepV [] v5) (keepV [] v6)
def ta50 (t86 : Y86) (l1 : Rw) (n1 : Int) : Rs :=
  la50o0 t86 l1 (0 : Int)
   (fun (n2 n3 : Int) (b1 b2 : Bool) (v1 v2 v3 v4 : SV) =>
    some ([.one (.i .i64 (-1 : Int))], []))
   (fun (n4 n5 : Int) (b3 b4 b5 : Bool) (v5 v6 v7 : SV) =>
    some ([.one (.i .i64 (-1 : Int))], []))
   (fun (n6 n7 : Int) (b6 b7 b8 b9 : Bool) (v8 v9 : SV) =>
    some ([.one (.i .i64 (-1 : Int))], []))
   (fun (n8 n9 : Int) (b10 b11 b12 b13 b14 : Bool) (v10 : SV) =>
    some ([.one (.i .i64 (-1 : Int))], []))
   (fun (n10 n11 : Int) (b15 b16 b17 b18 b19 b20 : Bool) =>
    some ([.one (.i .i64 (-1 : Int))], []))
   (fun (n12 n13 : Int) (b21 : Bool) (v11 v12 v13 v14 v15 : SV) =>
    some ([.one (.i .i64 n12)], [])) KK n1 (0 : Int) SV.undef SV.undef SV.undef SV.undef SV.undef SV.undef
def t50 : Y50 := ta50 t86
def zr50 : List DV := [.one (.i .i64 0)]
def zo50 : Rw := []
def A50 : List TA := [.one (.l), .one (.i .i64)]
abbrev Y21 := Rw → Int → Rs
def la21o0 (t49 : Y49) (t50 : Y50) (t52 : Y52) (l1 : Rw) (n1 : Int) (q1 : Int → Int → Bool → Bool → SV → SV → SV → SV → Rs) (q2 : Int → Int → Bool → Bool → Bool → SV → SV → SV → Rs) (q3 : Int → Int → Bool → Bool → Bool → Bool → SV → SV → Rs) (q4 : Int → Int → Bool → Bool → Bool → Bool → Bool → SV → Rs) (q5 : Int → Int → Bool → Bool → Bool → Bool → Bool → Bool → Rs) (q6 : Int → Int → Bool → SV → SV → SV → SV → SV → Rs) : Nat → Int → Int → SV → SV → SV → SV → SV → SV → Rs
  | 0, _, _, _, _, _, _, _, _ => none
  | m + 1, n2, n3, v1, v2, v3, v4, v5, v6 =>
    let y1 := decide (n3 < (l1.length : Int))
    if y1 then
     let y2 := l1.getD n3.toNat []
     chk (decide (0 ≤ n3) && decide (n3 < l1.length) && isRow z28 y2) <|
     let y3 := (asI (nthD y2 0)) != n2
     if y3 then
      q1 n2 n3 y1 y3 v3 v4 v5 v6
     else
      let y4 := l1.getD n3.toNat []
      chk (decide (0 ≤ n3) && decide (n3 < l1.length) && isRow z28 y4) <|
      let y5 := t52 (asL (nthD y4 1)) (w64 (n2 + (1 : Int)))
      chk (okR zr52 zo52 y5) <|
      let y6 := asI (resC y5 0 0)
      let y7 := decide (y6 < (0 : Int))
      if y7 then
       q2 y6 n3 y1 y3 y7 v4 v5 v6
      else
       let y8 := l1.getD n3.toNat []
       chk (decide (0 ≤ n3) && decide (n3 < l1.length) && isRow z28 y8) <|
       let y9 := (asI (nthD y8 2)) != y6
       if y9 then
        q3 y6 n3 y1 y3 y7 y9 v5 v6
       else
        let y10 := l1.getD n3.toNat []
        chk (decide (0 ≤ n3) && decide (n3 < l1.length) && isRow z28 y10) <|
        let y11 := t49 (asL (nthD y10 3)) (w64 (y6 + (1 : Int)))
        chk (okR zr49 zo49 y11) <|
        let y12 := asI (resC y11 0 0)
        let y13 := decide (y12 < (0 : Int))
        if y13 then
         q4 y12 n3 y1 y3 y7 y9 y13 v6
        else
         let y14 := l1.getD n3.toNat []
         chk (decide (0 ≤ n3) && decide (n3 < l1.length) && isRow z28 y14) <|
         let y15 := t50 (asL (nthD y14 4)) y12
         chk (okR zr50 zo50 y15) <|
         let y16 := asI (resC y15 0 0)
         let y17 := decide (y16 < (0 : Int))
         if y17 then
          q5 y16 n3 y1 y3 y7 y9 y13 y17
         else
          la21o0 t49 t50 t52 l1 n1 q1 q2 q3 q4 q5 q6 m y16 (w64 (n3 + (1 : Int))) (.d (.b y1)) (.d (.b y3)) (.d (.b y7)) (.d (.b y9)) (.d (.b y13)) (.d (.b y17))
    else
     q6 n2 n3 y1 (keepV [] v2) (keepV [] v3) (keepV [] v4) (keepV [] v5) (keepV [] v6)
def ta21 (t49 : Y49) (t50 : Y50) (t52 : Y52) (l1 : Rw) (n1 : Int) : Rs :=
  la21o0 t49 t50 t52 l1 (0 : Int)
   (fun (n2 n3 : Int) (b1 b2 : Bool) (v1 v2 v3 v4 : SV) =>
    some ([.one (.i .i64 (-1 : Int))], []))
   (fun (n4 n5 : Int) (b3 b4 b5 : Bool) (v5 v6 v7 : SV) =>
    some ([.one (.i .i64 (-1 : Int))], []))
   (fun (n6 n7 : Int) (b6 b7 b8 b9 : Bool) (v8 v9 : SV) =>
    some ([.one (.i .i64 (-1 : Int))], []))
   (fun (n8 n9 : Int) (b10 b11 b12 b13 b14 : Bool) (v10 : SV) =>
    some ([.one (.i .i64 (-1 : Int))], []))
   (fun (n10 n11 : Int) (b15 b16 b17 b18 b19 b20 : Bool) =>
    some ([.one (.i .i64 (-1 : Int))], []))
   (fun (n12 n13 : Int) (b21 : Bool) (v11 v12 v13 v14 v15 : SV) =>
    some ([.one (.i .i64 n12)], [])) KK n1 (0 : Int) SV.undef SV.undef SV.undef SV.undef SV.undef SV.undef
def t21 : Y21 := ta21 t49 t50 t52
def zr21 : List DV := [.one (.i .i64 0)]
def zo21 : Rw := []
def A21 : List TA := [.one (.l), .one (.i .i64)]
abbrev Y11 := ByteArray → Rs
def ta11 (t19 : Y19) (t20 : Y20) (t21 : Y21) (t38 : Y38) (t39 : Y39) (s1 : ByteArray) : Rs :=
  if decide ((s1.size : Int) > (1048576 : Int)) then
   some ([.one (.b true)], [])
  else
   chk (okR zr38 zo38 (t38 s1)) <|
   chk (okR zr39 zo39 (t39 s1)) <|
   let y1 := asL (resC (t39 s1) 0 0)
   let y2 := asL (resC (t38 s1) 0 0)
   let y3 := t19 y1 y2
   chk (okR zr19 zo19 y3) <|
   let y4 := asB (resC (t38 s1) 1 0)
   if (!(asB (resC y3 0 0))) || (!((asB (resC (t39 s1) 1 0)) == y4)) then
    some ([.one (.b false)], [])
   else
    let y5 := t20 y1 (1 : Int)
    chk (okR zr20 zo20 y5) <|
    let y6 := asL (outC y5 0 0)
    let y7 := t21 y6 (1 : Int)
    chk (okR zr21 zo21 y7) <|
    let y8 := asI (resC y7 0 0)
    if decide (y8 < (0 : Int)) then
     some ([.one (.b false)], [])
    else
     let y9 := asI (resC y5 0 0)
     if y8 != y9 then
      some ([.one (.b false)], [])
     else
      chk (okR zr39 zo39 (t39 s1)) <|
      let y10 := t19 (asL (resC (t39 s1) 0 0)) y2
      chk (okR zr19 zo19 y10) <|
      if (!(asB (resC y10 0 0))) || (!((asB (resC (t39 s1) 1 0)) == y4)) then
       some ([.one (.b false)], [])
      else
       let y11 := t21 y6 (1 : Int)
       chk (okR zr21 zo21 y11) <|
       let y12 := asI (resC y11 0 0)
       if decide (y12 < (0 : Int)) then
        some ([.one (.b false)], [])
       else
        if y12 != y9 then
         some ([.one (.b false)], [])
        else
         some ([.one (.b true)], [])
def t11 : Y11 := ta11 t19 t20 t21 t38 t39
def zr11 : List DV := [.one (.b false)]
def zo11 : Rw := []
def A11 : List TA := [.one (.s)]
end
end Go.Den.L11
