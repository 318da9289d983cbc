/- What the functions come to, as plain Lean. Printed by tw.py. -/
import Derived.Test.YtklnogkdclhdhaaDm8
set_option linter.unusedVariables false
namespace Go.Den.L10
open Go
noncomputable section
/-- The rounds that a loop is given: 2 ^ 64; so laid that nothing unfolds it. -/
noncomputable def KK : Nat := Classical.choose (⟨2 ^ 64, rfl⟩ : ∃ n : Nat, n = 2 ^ 64)
def w64 (x : Int) : Int := IntKind.wrap .i64 x
noncomputable def chk (b : Bool) (x : Rs) : Rs := if b then x else none
def bitAnd (k : IntKind) (a b : Int) : Int := k.wrap (BitVec.ofInt k.bits a &&& BitVec.ofInt k.bits b).toNat
def bitOr (k : IntKind) (a b : Int) : Int := k.wrap (BitVec.ofInt k.bits a ||| BitVec.ofInt k.bits b).toNat
def bitXor (k : IntKind) (a b : Int) : Int := k.wrap (BitVec.ofInt k.bits a ^^^ BitVec.ofInt k.bits b).toNat
def stR (xs : List (List D)) (i off : Nat) (ys : List D) : List (List D) := xs.modify i fun r => r.take off ++ ys ++ r.drop (off + ys.length)
def z3 : List D := [.i .i64 0]
def z5 : List D := [.i .u8 0]
def z38 : List D := [.i .i64 0, .i .i64 0, .i .i64 0, .i .i64 0, .s ⟨#[]⟩]
def z90 : List D := [.i .i64 0, .s ⟨#[]⟩]
abbrev Rw := List (List D)
abbrev Y43 := Rw → Rs
def t43 (l1 : Rw) : Rs :=
  some ([.one (.b (decide ((l1.length : Int) > (1048576 : Int))))], [])
def zr43 : List DV := [.one (.b false)]
def zo43 : Rw := []
def A43 : List TA := [.one (.l)]
abbrev Y72 := Rw → Rs
def l72o0 (l1 : Rw) (q1 : Int → Int → Bool → Rs) : Nat → Int → Int → SV → Rs
  | 0, _, _, _ => none
  | m + 1, n1, n2, v1 =>
    let y1 := (decide (n2 < (l1.length : Int))) && (decide (n2 < (4000 : Int)))
    if y1 then
     let y2 := l1.getD n2.toNat []
     chk (decide (0 ≤ n2) && decide (n2 < l1.length) && isRow z5 y2) <|
     l72o0 l1 q1 m (bitAnd .i64 (w64 ((w64 ((w64 (n1 * (131 : Int))) + (w64 (asI (nthD y2 0))))) + (7 : Int))) (1073741823 : Int)) (w64 (n2 + (1 : Int))) (.d (.b y1))
    else
     q1 n1 n2 y1
def t72 (l1 : Rw) : Rs :=
  l72o0 l1
   (fun (n1 n2 : Int) (b1 : Bool) =>
    some ([.ptr [.l l1, .i .i64 (0 : Int), .i .i64 n1]], [])) KK (w64 ((10101 : Int) + (l1.length : Int))) (0 : Int) SV.undef
def zr72 : List DV := [.ptr [.l [], .i .i64 0, .i .i64 0]]
def zo72 : Rw := []
def A72 : List TA := [.one (.l)]
abbrev Y93 := Rw → Int → Int → Rs
def t93 (l1 : Rw) (n1 n2 : Int) : Rs :=
  let k1 := fun (n3 n4 : Int) =>
   let y1 := w64 ((w64 (n2 * (6364136223846793005 : Int))) + (1442695040888963407 : Int))
   some ([.one (.i .i64 n3)], [[.l l1, .i .i64 n4, .i .i64 y1]])
  if decide (n1 < (l1.length : Int)) then
   let y2 := l1.getD n1.toNat []
   chk (decide (0 ≤ n1) && decide (n1 < l1.length) && isRow z5 y2) <|
   let y3 := w64 ((w64 (n2 * (6364136223846793005 : Int))) + (1442695040888963407 : Int))
   let y4 := bitAnd .i64 (bitXor .i64 (y3.fdiv (2 ^ (min (33 : Int).toNat (IntKind.bits .i64)))) (y3.fdiv (2 ^ (min (45 : Int).toNat (IntKind.bits .i64))))) (255 : Int)
   k1 (bitAnd .i64 (w64 (y4 + (w64 (asI (nthD y2 0))))) (255 : Int)) (w64 (n1 + (1 : Int)))
  else
   let y5 := w64 ((w64 (n2 * (6364136223846793005 : Int))) + (1442695040888963407 : Int))
   let y6 := bitAnd .i64 (bitXor .i64 (y5.fdiv (2 ^ (min (33 : Int).toNat (IntKind.bits .i64)))) (y5.fdiv (2 ^ (min (45 : Int).toNat (IntKind.bits .i64))))) (255 : Int)
   k1 y6 n1
def zr93 : List DV := [.one (.i .i64 0)]
def zo93 : Rw := [[.l [], .i .i64 0, .i .i64 0]]
def A93 : List TA := [.ptr [.l, .i .i64, .i .i64]]
abbrev Y79 := Rw → Int → Int → Int → Rs
def ta79 (t93 : Y93) (l1 : Rw) (n1 n2 n3 : Int) : Rs :=
  if decide (n3 ≤ (0 : Int)) then
   some ([.one (.i .i64 (0 : Int))], [[.l l1, .i .i64 n1, .i .i64 n2]])
  else
   if decide (n3 ≤ (256 : Int)) then
    let y1 := t93 l1 n1 n2
    chk (okR zr93 zo93 y1) <|
    chk (n3 != 0) <|
    some ([.one (.i .i64 ((asI (resC y1 0 0)).tmod n3))], [[.l l1, .i .i64 (asI (outC y1 0 1)), .i .i64 (asI (outC y1 0 2))]])
   else
    let y2 := t93 l1 n1 n2
    chk (okR zr93 zo93 y2) <|
    let y3 := t93 l1 (asI (outC y2 0 1)) (asI (outC y2 0 2))
    chk (okR zr93 zo93 y3) <|
    let y4 := t93 l1 (asI (outC y3 0 1)) (asI (outC y3 0 2))
    chk (okR zr93 zo93 y4) <|
    let y5 := t93 l1 (asI (outC y4 0 1)) (asI (outC y4 0 2))
    chk (okR zr93 zo93 y5) <|
    chk (n3 != 0) <|
    some ([.one (.i .i64 ((w64 ((w64 ((w64 ((w64 ((asI (resC y2 0 0)) * (16777216 : Int))) + (w64 ((asI (resC y3 0 0)) * (65536 : Int))))) + (w64 ((asI (resC y4 0 0)) * (256 : Int))))) + (asI (resC y5 0 0)))).tmod n3))], [[.l l1, .i .i64 (asI (outC y5 0 1)), .i .i64 (asI (outC y5 0 2))]])
def t79 : Y79 := ta79 t93
def zr79 : List DV := [.one (.i .i64 0)]
def zo79 : Rw := [[.l [], .i .i64 0, .i .i64 0]]
def A79 : List TA := [.ptr [.l, .i .i64, .i .i64], .one (.i .i64)]
abbrev Y74 := Rw → Int → Int → Int → Rs
def ta74 (t79 : Y79) (l1 : Rw) (n1 n2 n3 : Int) : Rs :=
  let y1 := t79 l1 n1 n2 n3
  chk (okR zr79 zo79 y1) <|
  some ([.one (.b ((asI (resC y1 0 0)) == (0 : Int)))], [[.l l1, .i .i64 (asI (outC y1 0 1)), .i .i64 (asI (outC y1 0 2))]])
def t74 : Y74 := ta74 t79
def zr74 : List DV := [.one (.b false)]
def zo74 : Rw := [[.l [], .i .i64 0, .i .i64 0]]
def A74 : List TA := [.ptr [.l, .i .i64, .i .i64], .one (.i .i64)]
abbrev Y92 := Rw → Int → Int → Int → Rs
def la92o0 (t79 : Y79) (t93 : Y93) (n1 : Int) (s1 : ByteArray) (n2 : Int) (l1 : Rw) (q1 : Int → SV → Bool → SV → SV → Int → Int → Rw → Rs) : Nat → Int → SV → SV → SV → SV → Int → Int → Rw → Rs
  | 0, _, _, _, _, _, _, _, _ => none
  | m + 1, n3, v1, v2, v3, v4, n4, n5, l2 =>
    let y1 := decide (n3 > (0 : Int))
    if y1 then
     let y2 := t93 l1 n4 n5
     chk (okR zr93 zo93 y2) <|
     let k1 := fun (n6 : Int) =>
      let k2 := fun (n7 : Int) =>
       let y3 := ([[.i .u8 (IntKind.wrap .u8 n7)]] : Rw)
       chk ((flatR 1 y3) && decide (l2.length + y3.length ≤ lim)) <|
       let y4 := n2 == (1 : Int)
       let y5 := n2 == (2 : Int)
       la92o0 t79 t93 n1 s1 n2 l1 q1 m (w64 (n3 - (1 : Int))) (.d (.i .i64 n7)) (.d (.b y1)) (.d (.b y4)) (.d (.b y5)) (asI (outC y2 0 1)) (asI (outC y2 0 2)) (l2 ++ y3)
      let y6 := n2 == (2 : Int)
      if y6 then
       k2 (w64 ((97 : Int) + (n6.tmod (4 : Int))))
      else
       k2 n6
     let y7 := n2 == (1 : Int)
     if y7 then
      let y8 := asI (resC y2 0 0)
      k1 (y8.tmod (2 : Int))
     else
      let y9 := asI (resC y2 0 0)
      k1 y9
    else
     q1 n3 (keepV [0, 576] v1) y1 (keepV [0, 576] v3) (keepV [0, 576] v4) n4 n5 l2
def ta92 (t79 : Y79) (t93 : Y93) (l1 : Rw) (n1 n2 n3 : Int) : Rs :=
  let y1 := t79 l1 n1 n2 (4 : Int)
  chk (okR zr79 zo79 y1) <|
  let y2 := t79 l1 (asI (outC y1 0 1)) (asI (outC y1 0 2)) (w64 (n3 + (1 : Int)))
  chk (okR zr79 zo79 y2) <|
  la92o0 t79 t93 n3 (⟨#[]⟩ : ByteArray) (asI (resC y1 0 0)) l1
   (fun (n4 : Int) (v1 : SV) (b1 : Bool) (v2 v3 : SV) (n5 n6 : Int) (l2 : Rw) =>
    chk (isBytes l2) <|
    some ([.one (.s ⟨(bytesD l2).toArray⟩)], [[.l l1, .i .i64 n5, .i .i64 n6]])) KK (asI (resC y2 0 0)) SV.undef SV.undef SV.undef SV.undef (asI (outC y2 0 1)) (asI (outC y2 0 2)) ([] : Rw)
def t92 : Y92 := ta92 t79 t93
def zr92 : List DV := [.one (.s ⟨#[]⟩)]
def zo92 : Rw := [[.l [], .i .i64 0, .i .i64 0]]
def A92 : List TA := [.ptr [.l, .i .i64, .i .i64], .one (.i .i64)]
abbrev Y96 := Rw → Int → Int → Int → Int → Int → Rs
def la96o0 (t74 : Y74) (t79 : Y79) (t92 : Y92) (n1 n2 : Int) (l1 : Rw) (q1 : Int → Int → Bool → Bool → Bool → Int → Int → Rw → Rs) (q2 : Int → Int → Bool → SV → SV → Int → Int → Rw → Rs) : Nat → Int → Int → SV → SV → SV → Int → Int → Rw → Rs
  | 0, _, _, _, _, _, _, _, _ => none
  | m + 1, n3, n4, v1, v2, v3, n5, n6, l2 =>
    let y1 := decide (n4 > (0 : Int))
    if y1 then
     let y2 := decide (n3 < (1 : Int))
     let y3 := decide (n3 < n2)
     if (!y2) && y3 then
      let y4 := t74 l1 n5 n6 (3 : Int)
      chk (okR zr74 zo74 y4) <|
      let k1 := fun (n7 : Int) =>
       let y5 := decide (n7 > n2)
       if y5 then
        let y6 := y2 || (y3 && (asB (resC y4 0 0)))
        let y7 := asI (outC y4 0 1)
        let y8 := asI (outC y4 0 2)
        q1 n7 n4 y1 y6 y5 y7 y8 l2
       else
        let y9 := asI (outC y4 0 1)
        let y10 := asI (outC y4 0 2)
        let y11 := t92 l1 y9 y10 (8 : Int)
        chk (okR zr92 zo92 y11) <|
        let y12 := ([[.i .i64 n7, .s (asS (resC y11 0 0))]] : Rw)
        chk ((flatR 2 y12) && decide (l2.length + y12.length ≤ lim)) <|
        let y13 := y2 || (y3 && (asB (resC y4 0 0)))
        la96o0 t74 t79 t92 n1 n2 l1 q1 q2 m n7 (w64 (n4 - (1 : Int))) (.d (.b y1)) (.d (.b y13)) (.d (.b y5)) (asI (outC y11 0 1)) (asI (outC y11 0 2)) (l2 ++ y12)
      let y14 := y2 || (y3 && (asB (resC y4 0 0)))
      if y14 then
       k1 (w64 (n3 + (1 : Int)))
      else
       k1 n3
     else
      chk ((!y3) || !(!y2)) <|
      let k2 := fun (n8 : Int) =>
       let y15 := decide (n8 > n2)
       if y15 then
        let y16 := y2 && true
        q1 n8 n4 y1 y16 y15 n5 n6 l2
       else
        let y17 := t92 l1 n5 n6 (8 : Int)
        chk (okR zr92 zo92 y17) <|
        let y18 := ([[.i .i64 n8, .s (asS (resC y17 0 0))]] : Rw)
        chk ((flatR 2 y18) && decide (l2.length + y18.length ≤ lim)) <|
        let y19 := y2 && true
        la96o0 t74 t79 t92 n1 n2 l1 q1 q2 m n8 (w64 (n4 - (1 : Int))) (.d (.b y1)) (.d (.b y19)) (.d (.b y15)) (asI (outC y17 0 1)) (asI (outC y17 0 2)) (l2 ++ y18)
      let y20 := y2 && true
      if y20 then
       k2 (w64 (n3 + (1 : Int)))
      else
       k2 n3
    else
     q2 n3 n4 y1 (keepV [0, 704] v2) (keepV [0, 704] v3) n5 n6 l2
def ta96 (t74 : Y74) (t79 : Y79) (t92 : Y92) (l1 : Rw) (n1 n2 n3 n4 n5 : Int) : Rs :=
  let y1 := t79 l1 n1 n2 (w64 (n3 + (1 : Int)))
  chk (okR zr79 zo79 y1) <|
  la96o0 t74 t79 t92 n3 n5 l1
   (fun (n6 n7 : Int) (b1 b2 b3 : Bool) (n8 n9 : Int) (l2 : Rw) =>
    some ([.one (.l l2)], [[.l l1, .i .i64 n8, .i .i64 n9]]))
   (fun (n10 n11 : Int) (b4 : Bool) (v1 v2 : SV) (n12 n13 : Int) (l3 : Rw) =>
    some ([.one (.l l3)], [[.l l1, .i .i64 n12, .i .i64 n13]])) KK n4 (asI (resC y1 0 0)) SV.undef SV.undef SV.undef (asI (outC y1 0 1)) (asI (outC y1 0 2)) ([] : Rw)
def t96 : Y96 := ta96 t74 t79 t92
def zr96 : List DV := [.one (.l [])]
def zo96 : Rw := [[.l [], .i .i64 0, .i .i64 0]]
def A96 : List TA := [.ptr [.l, .i .i64, .i .i64], .one (.i .i64), .one (.i .i64), .one (.i .i64)]
abbrev Y91 := Rw → Int → Int → Rs
def la91o3 (t74 : Y74) (t79 : Y79) (t92 : Y92) (t96 : Y96) (n1 : Int) (b1 b2 b3 : Bool) (l1 : Rw) (n2 n3 n4 n5 n6 n7 : Int) (s1 : ByteArray) (n8 n9 n10 n11 : Int) (s2 : ByteArray) (q1 : Bool → Rw → Rs) : Nat → SV → Rw → Rs
  | 0, _, _ => none
  | m + 1, v1, l2 =>
    let y1 := decide ((l2.length : Int) < n1)
    if y1 then
     let y2 := ([[.i .i64 n8, .s (⟨#[]⟩ : ByteArray)]] : Rw)
     chk ((flatR 2 y2) && decide (l2.length + y2.length ≤ lim)) <|
     la91o3 t74 t79 t92 t96 n1 b1 b2 b3 l1 n2 n3 n4 n5 n6 n7 s1 n8 n9 n10 n11 s2 q1 m (.d (.b y1)) (l2 ++ y2)
    else
     q1 y1 l2
def ta91 (t74 : Y74) (t79 : Y79) (t92 : Y92) (t96 : Y96) (l1 : Rw) (n1 n2 : Int) : Rs :=
  let y1 := t79 l1 n1 n2 (8 : Int)
  chk (okR zr79 zo79 y1) <|
  let y2 := t79 l1 (asI (outC y1 0 1)) (asI (outC y1 0 2)) (6 : Int)
  chk (okR zr79 zo79 y2) <|
  let y3 := asI (resC y1 0 0)
  let y4 := decide (y3 > (0 : Int))
  if y4 then
   let y5 := asI (outC y2 0 1)
   let y6 := asI (outC y2 0 2)
   let y7 := t74 l1 y5 y6 (2 : Int)
   chk (okR zr74 zo74 y7) <|
   let k1 := fun (n3 n4 n5 n6 : Int) (s1 : ByteArray) =>
    let y8 := t96 l1 n3 n4 (6 : Int) n6 y3
    chk (okR zr96 zo96 y8) <|
    let y9 := decide (y3 > (0 : Int))
    if y9 then
     let y10 := asI (outC y8 0 1)
     let y11 := asI (outC y8 0 2)
     let y12 := t74 l1 y10 y11 (25 : Int)
     chk (okR zr74 zo74 y12) <|
     let k2 := fun (n7 n8 n9 n10 : Int) (s2 : ByteArray) =>
      let y13 := decide (y3 > (0 : Int))
      if y13 then
       let y14 := t74 l1 n7 n8 (25 : Int)
       chk (okR zr74 zo74 y14) <|
       let y15 := y13 && (asB (resC y14 0 0))
       if y15 then
        let y16 := asI (outC y14 0 1)
        let y17 := asI (outC y14 0 2)
        let y18 := t79 l1 y16 y17 (2 : Int)
        chk (okR zr79 zo79 y18) <|
        let y19 := y4 && (asB (resC y7 0 0))
        let y20 := y9 && (asB (resC y12 0 0))
        let y21 := asI (outC y18 0 1)
        let y22 := asI (outC y18 0 2)
        let y23 := w64 ((asI (resC y2 0 0)) - (1 : Int))
        let y24 := asL (resC y8 0 0)
        la91o3 t74 t79 t92 t96 (w64 ((60 : Int) + (asI (resC y18 0 0)))) y19 y20 y15 l1 y21 y22 (0 : Int) (0 : Int) (0 : Int) (0 : Int) (⟨#[]⟩ : ByteArray) y3 y23 n9 n10 s2
         (fun (b1 : Bool) (l2 : Rw) =>
          some ([.agg [.i .i64 y3, .i .i64 y23, .i .i64 n9, .i .i64 n10, .s s2, .l l2]], [[.l l1, .i .i64 y21, .i .i64 y22]])) KK SV.undef y24
       else
        let y25 := w64 ((asI (resC y2 0 0)) - (1 : Int))
        let y26 := asL (resC y8 0 0)
        let y27 := asI (outC y14 0 1)
        let y28 := asI (outC y14 0 2)
        some ([.agg [.i .i64 y3, .i .i64 y25, .i .i64 n9, .i .i64 n10, .s s2, .l y26]], [[.l l1, .i .i64 y27, .i .i64 y28]])
      else
       chk (!y13) <|
       let y29 := w64 ((asI (resC y2 0 0)) - (1 : Int))
       let y30 := asL (resC y8 0 0)
       some ([.agg [.i .i64 y3, .i .i64 y29, .i .i64 n9, .i .i64 n10, .s s2, .l y30]], [[.l l1, .i .i64 n7, .i .i64 n8]])
     let y31 := y9 && (asB (resC y12 0 0))
     if y31 then
      let y32 := asI (outC y12 0 1)
      let y33 := asI (outC y12 0 2)
      let y34 := t79 l1 y32 y33 (2 : Int)
      chk (okR zr79 zo79 y34) <|
      let y35 := asL (resC y8 0 0)
      k2 (asI (outC y34 0 1)) (asI (outC y34 0 2)) (w64 ((w64 ((100000 : Int) - (y35.length : Int))) + (asI (resC y34 0 0)))) (1 : Int) (⟨#[]⟩ : ByteArray)
     else
      let y36 := asI (outC y12 0 1)
      let y37 := asI (outC y12 0 2)
      k2 y36 y37 n5 n6 s1
    else
     chk (!y9) <|
     let y38 := decide (y3 > (0 : Int))
     if y38 then
      let y39 := asI (outC y8 0 1)
      let y40 := asI (outC y8 0 2)
      let y41 := t74 l1 y39 y40 (25 : Int)
      chk (okR zr74 zo74 y41) <|
      let y42 := y38 && (asB (resC y41 0 0))
      if y42 then
       let y43 := asI (outC y41 0 1)
       let y44 := asI (outC y41 0 2)
       let y45 := t79 l1 y43 y44 (2 : Int)
       chk (okR zr79 zo79 y45) <|
       let y46 := y4 && (asB (resC y7 0 0))
       let y47 := asI (outC y45 0 1)
       let y48 := asI (outC y45 0 2)
       let y49 := w64 ((asI (resC y2 0 0)) - (1 : Int))
       let y50 := asL (resC y8 0 0)
       la91o3 t74 t79 t92 t96 (w64 ((60 : Int) + (asI (resC y45 0 0)))) y46 false y42 l1 y47 y48 (0 : Int) (0 : Int) (0 : Int) (0 : Int) (⟨#[]⟩ : ByteArray) y3 y49 n5 n6 s1
        (fun (b2 : Bool) (l3 : Rw) =>
         some ([.agg [.i .i64 y3, .i .i64 y49, .i .i64 n5, .i .i64 n6, .s s1, .l l3]], [[.l l1, .i .i64 y47, .i .i64 y48]])) KK SV.undef y50
      else
       let y51 := w64 ((asI (resC y2 0 0)) - (1 : Int))
       let y52 := asL (resC y8 0 0)
       let y53 := asI (outC y41 0 1)
       let y54 := asI (outC y41 0 2)
       some ([.agg [.i .i64 y3, .i .i64 y51, .i .i64 n5, .i .i64 n6, .s s1, .l y52]], [[.l l1, .i .i64 y53, .i .i64 y54]])
     else
      chk (!y38) <|
      let y55 := w64 ((asI (resC y2 0 0)) - (1 : Int))
      let y56 := asL (resC y8 0 0)
      let y57 := asI (outC y8 0 1)
      let y58 := asI (outC y8 0 2)
      some ([.agg [.i .i64 y3, .i .i64 y55, .i .i64 n5, .i .i64 n6, .s s1, .l y56]], [[.l l1, .i .i64 y57, .i .i64 y58]])
   let y59 := y4 && (asB (resC y7 0 0))
   if y59 then
    let y60 := asI (outC y7 0 1)
    let y61 := asI (outC y7 0 2)
    let y62 := t79 l1 y60 y61 (9 : Int)
    chk (okR zr79 zo79 y62) <|
    let y63 := t79 l1 (asI (outC y62 0 1)) (asI (outC y62 0 2)) y3
    chk (okR zr79 zo79 y63) <|
    let y64 := t92 l1 (asI (outC y63 0 1)) (asI (outC y63 0 2)) (12 : Int)
    chk (okR zr92 zo92 y64) <|
    k1 (asI (outC y64 0 1)) (asI (outC y64 0 2)) (w64 ((1 : Int) + (asI (resC y62 0 0)))) (w64 ((1 : Int) + (asI (resC y63 0 0)))) (asS (resC y64 0 0))
   else
    let y65 := asI (outC y7 0 1)
    let y66 := asI (outC y7 0 2)
    k1 y65 y66 (0 : Int) (0 : Int) (⟨#[]⟩ : ByteArray)
  else
   chk (!y4) <|
   let y67 := asI (outC y2 0 1)
   let y68 := asI (outC y2 0 2)
   let y69 := t96 l1 y67 y68 (6 : Int) (0 : Int) y3
   chk (okR zr96 zo96 y69) <|
   let y70 := decide (y3 > (0 : Int))
   if y70 then
    let y71 := asI (outC y69 0 1)
    let y72 := asI (outC y69 0 2)
    let y73 := t74 l1 y71 y72 (25 : Int)
    chk (okR zr74 zo74 y73) <|
    let k3 := fun (n11 n12 n13 n14 : Int) =>
     let y74 := decide (y3 > (0 : Int))
     if y74 then
      let y75 := t74 l1 n11 n12 (25 : Int)
      chk (okR zr74 zo74 y75) <|
      let y76 := y74 && (asB (resC y75 0 0))
      if y76 then
       let y77 := asI (outC y75 0 1)
       let y78 := asI (outC y75 0 2)
       let y79 := t79 l1 y77 y78 (2 : Int)
       chk (okR zr79 zo79 y79) <|
       let y80 := y70 && (asB (resC y73 0 0))
       let y81 := asI (outC y79 0 1)
       let y82 := asI (outC y79 0 2)
       let y83 := w64 ((asI (resC y2 0 0)) - (1 : Int))
       let y84 := asL (resC y69 0 0)
       la91o3 t74 t79 t92 t96 (w64 ((60 : Int) + (asI (resC y79 0 0)))) false y80 y76 l1 y81 y82 (0 : Int) (0 : Int) (0 : Int) (0 : Int) (⟨#[]⟩ : ByteArray) y3 y83 n13 n14 (⟨#[]⟩ : ByteArray)
        (fun (b3 : Bool) (l4 : Rw) =>
         some ([.agg [.i .i64 y3, .i .i64 y83, .i .i64 n13, .i .i64 n14, .s (⟨#[]⟩ : ByteArray), .l l4]], [[.l l1, .i .i64 y81, .i .i64 y82]])) KK SV.undef y84
      else
       let y85 := w64 ((asI (resC y2 0 0)) - (1 : Int))
       let y86 := asL (resC y69 0 0)
       let y87 := asI (outC y75 0 1)
       let y88 := asI (outC y75 0 2)
       some ([.agg [.i .i64 y3, .i .i64 y85, .i .i64 n13, .i .i64 n14, .s (⟨#[]⟩ : ByteArray), .l y86]], [[.l l1, .i .i64 y87, .i .i64 y88]])
     else
      chk (!y74) <|
      let y89 := w64 ((asI (resC y2 0 0)) - (1 : Int))
      let y90 := asL (resC y69 0 0)
      some ([.agg [.i .i64 y3, .i .i64 y89, .i .i64 n13, .i .i64 n14, .s (⟨#[]⟩ : ByteArray), .l y90]], [[.l l1, .i .i64 n11, .i .i64 n12]])
    let y91 := y70 && (asB (resC y73 0 0))
    if y91 then
     let y92 := asI (outC y73 0 1)
     let y93 := asI (outC y73 0 2)
     let y94 := t79 l1 y92 y93 (2 : Int)
     chk (okR zr79 zo79 y94) <|
     let y95 := asL (resC y69 0 0)
     k3 (asI (outC y94 0 1)) (asI (outC y94 0 2)) (w64 ((w64 ((100000 : Int) - (y95.length : Int))) + (asI (resC y94 0 0)))) (1 : Int)
    else
     let y96 := asI (outC y73 0 1)
     let y97 := asI (outC y73 0 2)
     k3 y96 y97 (0 : Int) (0 : Int)
   else
    chk (!y70) <|
    let y98 := decide (y3 > (0 : Int))
    if y98 then
     let y99 := asI (outC y69 0 1)
     let y100 := asI (outC y69 0 2)
     let y101 := t74 l1 y99 y100 (25 : Int)
     chk (okR zr74 zo74 y101) <|
     let y102 := y98 && (asB (resC y101 0 0))
     if y102 then
      let y103 := asI (outC y101 0 1)
      let y104 := asI (outC y101 0 2)
      let y105 := t79 l1 y103 y104 (2 : Int)
      chk (okR zr79 zo79 y105) <|
      let y106 := asI (outC y105 0 1)
      let y107 := asI (outC y105 0 2)
      let y108 := w64 ((asI (resC y2 0 0)) - (1 : Int))
      let y109 := asL (resC y69 0 0)
      la91o3 t74 t79 t92 t96 (w64 ((60 : Int) + (asI (resC y105 0 0)))) false false y102 l1 y106 y107 (0 : Int) (0 : Int) (0 : Int) (0 : Int) (⟨#[]⟩ : ByteArray) y3 y108 (0 : Int) (0 : Int) (⟨#[]⟩ : ByteArray)
       (fun (b4 : Bool) (l5 : Rw) =>
        some ([.agg [.i .i64 y3, .i .i64 y108, .i .i64 (0 : Int), .i .i64 (0 : Int), .s (⟨#[]⟩ : ByteArray), .l l5]], [[.l l1, .i .i64 y106, .i .i64 y107]])) KK SV.undef y109
     else
      let y110 := w64 ((asI (resC y2 0 0)) - (1 : Int))
      let y111 := asL (resC y69 0 0)
      let y112 := asI (outC y101 0 1)
      let y113 := asI (outC y101 0 2)
      some ([.agg [.i .i64 y3, .i .i64 y110, .i .i64 (0 : Int), .i .i64 (0 : Int), .s (⟨#[]⟩ : ByteArray), .l y111]], [[.l l1, .i .i64 y112, .i .i64 y113]])
    else
     chk (!y98) <|
     let y114 := w64 ((asI (resC y2 0 0)) - (1 : Int))
     let y115 := asL (resC y69 0 0)
     let y116 := asI (outC y69 0 1)
     let y117 := asI (outC y69 0 2)
     some ([.agg [.i .i64 y3, .i .i64 y114, .i .i64 (0 : Int), .i .i64 (0 : Int), .s (⟨#[]⟩ : ByteArray), .l y115]], [[.l l1, .i .i64 y116, .i .i64 y117]])
def t91 : Y91 := ta91 t74 t79 t92 t96
def zr91 : List DV := [.agg [.i .i64 0, .i .i64 0, .i .i64 0, .i .i64 0, .s ⟨#[]⟩, .l []]]
def zo91 : Rw := [[.l [], .i .i64 0, .i .i64 0]]
def A91 : List TA := [.ptr [.l, .i .i64, .i .i64]]
abbrev Y81 := Rw → Int → Int → Rw → Rs
def ta81 (t79 : Y79) (l1 : Rw) (n1 n2 : Int) (l2 : Rw) : Rs :=
  let y1 := t79 l1 n1 n2 (l2.length : Int)
  chk (okR zr79 zo79 y1) <|
  let y2 := asI (resC y1 0 0)
  let y3 := l2.getD y2.toNat []
  chk (decide (0 ≤ y2) && decide (y2 < l2.length) && isRow z3 y3) <|
  some ([.one (.i .i64 (asI (nthD y3 0)))], [[.l l1, .i .i64 (asI (outC y1 0 1)), .i .i64 (asI (outC y1 0 2))]])
def t81 : Y81 := ta81 t79
def zr81 : List DV := [.one (.i .i64 0)]
def zo81 : Rw := [[.l [], .i .i64 0, .i .i64 0]]
def A81 : List TA := [.ptr [.l, .i .i64, .i .i64], .one (.l)]
abbrev Y73 := Rw → Int → Int → Rs
def ta73 (t74 : Y74) (t79 : Y79) (t81 : Y81) (t91 : Y91) (l1 : Rw) (n1 n2 : Int) : Rs :=
  let y1 := t91 l1 n1 n2
  chk (okR zr91 zo91 y1) <|
  let y2 := t74 l1 (asI (outC y1 0 1)) (asI (outC y1 0 2)) (8 : Int)
  chk (okR zr74 zo74 y2) <|
  if asB (resC y2 0 0) then
   let y3 := asI (outC y2 0 1)
   let y4 := asI (outC y2 0 2)
   let y5 := t79 l1 y3 y4 (6 : Int)
   chk (okR zr79 zo79 y5) <|
   let y6 := asI (resC y5 0 0)
   if y6 == (0 : Int) then
    let y7 := asI (outC y5 0 1)
    let y8 := asI (outC y5 0 2)
    let y9 := t81 l1 y7 y8 ([[.i .i64 (-1 : Int)], [.i .i64 (0 : Int)], [.i .i64 (100000 : Int)], [.i .i64 (100001 : Int)]] : Rw)
    chk (okR zr81 zo81 y9) <|
    let y10 := asI (resC y1 0 1)
    let y11 := asI (resC y1 0 2)
    let y12 := asI (resC y1 0 3)
    let y13 := asS (resC y1 0 4)
    let y14 := asL (resC y1 0 5)
    some ([.agg [.i .i64 (asI (resC y9 0 0)), .i .i64 y10, .i .i64 y11, .i .i64 y12, .s y13, .l y14]], [[.l l1, .i .i64 (asI (outC y9 0 1)), .i .i64 (asI (outC y9 0 2))]])
   else
    if y6 == (1 : Int) then
     let y15 := asI (outC y5 0 1)
     let y16 := asI (outC y5 0 2)
     let y17 := t81 l1 y15 y16 ([[.i .i64 (-2 : Int)], [.i .i64 (5 : Int)]] : Rw)
     chk (okR zr81 zo81 y17) <|
     let y18 := asI (resC y1 0 0)
     let y19 := asI (resC y1 0 2)
     let y20 := asI (resC y1 0 3)
     let y21 := asS (resC y1 0 4)
     let y22 := asL (resC y1 0 5)
     some ([.agg [.i .i64 y18, .i .i64 (asI (resC y17 0 0)), .i .i64 y19, .i .i64 y20, .s y21, .l y22]], [[.l l1, .i .i64 (asI (outC y17 0 1)), .i .i64 (asI (outC y17 0 2))]])
    else
     if y6 == (2 : Int) then
      let y23 := asI (outC y5 0 1)
      let y24 := asI (outC y5 0 2)
      let y25 := t81 l1 y23 y24 ([[.i .i64 (-1 : Int)], [.i .i64 (0 : Int)], [.i .i64 (3 : Int)], [.i .i64 (100000 : Int)], [.i .i64 (100001 : Int)]] : Rw)
      chk (okR zr81 zo81 y25) <|
      let y26 := asI (resC y1 0 0)
      let y27 := asI (resC y1 0 1)
      let y28 := asI (resC y1 0 3)
      let y29 := asS (resC y1 0 4)
      let y30 := asL (resC y1 0 5)
      some ([.agg [.i .i64 y26, .i .i64 y27, .i .i64 (asI (resC y25 0 0)), .i .i64 y28, .s y29, .l y30]], [[.l l1, .i .i64 (asI (outC y25 0 1)), .i .i64 (asI (outC y25 0 2))]])
     else
      if y6 == (3 : Int) then
       let y31 := asI (outC y5 0 1)
       let y32 := asI (outC y5 0 2)
       let y33 := t79 l1 y31 y32 (10 : Int)
       chk (okR zr79 zo79 y33) <|
       let y34 := asI (resC y1 0 0)
       let y35 := asI (resC y1 0 1)
       let y36 := asI (resC y1 0 2)
       let y37 := asS (resC y1 0 4)
       let y38 := asL (resC y1 0 5)
       some ([.agg [.i .i64 y34, .i .i64 y35, .i .i64 y36, .i .i64 (w64 ((asI (resC y33 0 0)) - (1 : Int))), .s y37, .l y38]], [[.l l1, .i .i64 (asI (outC y33 0 1)), .i .i64 (asI (outC y33 0 2))]])
      else
       let k1 := fun (n3 n4 : Int) (s1 : ByteArray) (l2 : Rw) =>
        let y39 := asI (resC y1 0 0)
        let y40 := asI (resC y1 0 1)
        let y41 := asI (resC y1 0 2)
        let y42 := asI (resC y1 0 3)
        some ([.agg [.i .i64 y39, .i .i64 y40, .i .i64 y41, .i .i64 y42, .s s1, .l l2]], [[.l l1, .i .i64 n3, .i .i64 n4]])
       if y6 == (4 : Int) then
        let y43 := asI (outC y5 0 1)
        let y44 := asI (outC y5 0 2)
        let y45 := t79 l1 y43 y44 (10 : Int)
        chk (okR zr79 zo79 y45) <|
        let y46 := ([[.i .i64 (w64 ((asI (resC y45 0 0)) - (1 : Int))), .s (⟨#[]⟩ : ByteArray)]] : Rw)
        let y47 := asL (resC y1 0 5)
        chk ((flatR 2 y46) && decide (y47.length + y46.length ≤ lim)) <|
        let y48 := asS (resC y1 0 4)
        k1 (asI (outC y45 0 1)) (asI (outC y45 0 2)) y48 (y47 ++ y46)
       else
        let y49 := asS (resC y1 0 4)
        chk (decide (y49.size + (⟨#[120]⟩ : ByteArray).size ≤ lim)) <|
        let y50 := asI (outC y5 0 1)
        let y51 := asI (outC y5 0 2)
        let y52 := asL (resC y1 0 5)
        k1 y50 y51 (y49 ++ (⟨#[120]⟩ : ByteArray)) y52
  else
   let y53 := asI (resC y1 0 0)
   let y54 := asI (resC y1 0 1)
   let y55 := asI (resC y1 0 2)
   let y56 := asI (resC y1 0 3)
   let y57 := asS (resC y1 0 4)
   let y58 := asL (resC y1 0 5)
   let y59 := asI (outC y2 0 1)
   let y60 := asI (outC y2 0 2)
   some ([.agg [.i .i64 y53, .i .i64 y54, .i .i64 y55, .i .i64 y56, .s y57, .l y58]], [[.l l1, .i .i64 y59, .i .i64 y60]])
def t73 : Y73 := ta73 t74 t79 t81 t91
def zr73 : List DV := [.agg [.i .i64 0, .i .i64 0, .i .i64 0, .i .i64 0, .s ⟨#[]⟩, .l []]]
def zo73 : Rw := [[.l [], .i .i64 0, .i .i64 0]]
def A73 : List TA := [.ptr [.l, .i .i64, .i .i64]]
abbrev Y53 := Int → Int → Int → Int → ByteArray → Rw → Rs
def t53 (n1 n2 n3 n4 : Int) (s1 : ByteArray) (l1 : Rw) : Rs :=
  chk ((flatR 2 l1) && decide (([] : Rw).length + l1.length ≤ lim)) <|
  some ([.agg [.i .i64 n1, .i .i64 n2, .i .i64 n3, .i .i64 n4, .s s1, .l (([] : Rw) ++ l1)]], [])
def zr53 : List DV := [.agg [.i .i64 0, .i .i64 0, .i .i64 0, .i .i64 0, .s ⟨#[]⟩, .l []]]
def zo53 : Rw := []
def A53 : List TA := [.agg [.i .i64, .i .i64, .i .i64, .i .i64, .s, .l]]
abbrev Y75 := Rw → Int → Int → Int → Int → Int → Int → ByteArray → Rw → Rs
def la75o6 (t53 : Y53) (t74 : Y74) (t79 : Y79) (t92 : Y92) (n1 n2 n3 n4 : Int) (s1 : ByteArray) (l1 : Rw) (n5 : Int) (b1 b2 b3 b4 b5 b6 : Bool) (l2 : Rw) (n6 n7 n8 n9 : Int) (s2 : ByteArray) (l3 : Rw) (n10 n11 n12 n13 : Int) (s3 : ByteArray) (n14 n15 n16 n17 : Int) (s4 : ByteArray) (n18 n19 : Int) (s5 : ByteArray) (q1 : Int → Bool → Int → Int → Rw → Rs) : Nat → Int → SV → Int → Int → Rw → Rs
  | 0, _, _, _, _, _ => none
  | m + 1, n20, v1, n21, n22, l4 =>
    let y1 := (((decide (n20 > (0 : Int))) && (decide (n14 > (0 : Int)))) && (decide ((l4.length : Int) < (60 : Int)))) && (decide ((w64 (n16 + (l4.length : Int))) < (100000 : Int)))
    if y1 then
     let y2 := t92 l2 n21 n22 (6 : Int)
     chk (okR zr92 zo92 y2) <|
     let y3 := ([[.i .i64 n14, .s (asS (resC y2 0 0))]] : Rw)
     chk ((flatR 2 y3) && decide (l4.length + y3.length ≤ lim)) <|
     la75o6 t53 t74 t79 t92 n1 n2 n3 n4 s1 l1 n5 b1 b2 b3 b4 b5 b6 l2 n6 n7 n8 n9 s2 l3 n10 n11 n12 n13 s3 n14 n15 n16 n17 s4 n18 n19 s5 q1 m (w64 (n20 - (1 : Int))) (.d (.b y1)) (asI (outC y2 0 1)) (asI (outC y2 0 2)) (l4 ++ y3)
    else
     q1 n20 y1 n21 n22 l4
def la75o100006 (t53 : Y53) (t74 : Y74) (t79 : Y79) (t92 : Y92) (n1 n2 n3 n4 : Int) (s1 : ByteArray) (l1 : Rw) (n5 : Int) (b1 b2 b3 b4 b5 b6 : Bool) (l2 : Rw) (n6 n7 n8 n9 : Int) (s2 : ByteArray) (l3 : Rw) (n10 n11 n12 n13 : Int) (s3 : ByteArray) (n14 n15 n16 n17 : Int) (s4 : ByteArray) (n18 n19 : Int) (s5 : ByteArray) (l4 : Rw) (q1 : Int → Bool → Int → Int → Rw → Rs) : Nat → Int → SV → Int → Int → Rw → Rs
  | 0, _, _, _, _, _ => none
  | m + 1, n20, v1, n21, n22, l5 =>
    let y1 := (((decide (n20 > (0 : Int))) && (decide (n14 > (0 : Int)))) && (decide ((l5.length : Int) < (60 : Int)))) && (decide ((w64 (n16 + (l5.length : Int))) < (100000 : Int)))
    if y1 then
     let y2 := t92 l2 n21 n22 (6 : Int)
     chk (okR zr92 zo92 y2) <|
     let y3 := ([[.i .i64 n14, .s (asS (resC y2 0 0))]] : Rw)
     chk ((flatR 2 y3) && decide (l5.length + y3.length ≤ lim)) <|
     la75o100006 t53 t74 t79 t92 n1 n2 n3 n4 s1 l1 n5 b1 b2 b3 b4 b5 b6 l2 n6 n7 n8 n9 s2 l3 n10 n11 n12 n13 s3 n14 n15 n16 n17 s4 n18 n19 s5 l4 q1 m (w64 (n20 - (1 : Int))) (.d (.b y1)) (asI (outC y2 0 1)) (asI (outC y2 0 2)) (l5 ++ y3)
    else
     q1 n20 y1 n21 n22 l5
def la75o200006 (t53 : Y53) (t74 : Y74) (t79 : Y79) (t92 : Y92) (n1 n2 n3 n4 : Int) (s1 : ByteArray) (l1 : Rw) (b1 b2 b3 b4 : Bool) (l2 : Rw) (n5 n6 n7 n8 : Int) (s2 : ByteArray) (l3 : Rw) (n9 n10 n11 n12 : Int) (s3 : ByteArray) (n13 n14 n15 n16 : Int) (s4 : ByteArray) (q1 : Int → Bool → Int → Int → Rw → Rs) : Nat → Int → SV → Int → Int → Rw → Rs
  | 0, _, _, _, _, _ => none
  | m + 1, n17, v1, n18, n19, l4 =>
    let y1 := (((decide (n17 > (0 : Int))) && (decide (n13 > (0 : Int)))) && (decide ((l4.length : Int) < (60 : Int)))) && (decide ((w64 (n15 + (l4.length : Int))) < (100000 : Int)))
    if y1 then
     let y2 := t92 l2 n18 n19 (6 : Int)
     chk (okR zr92 zo92 y2) <|
     let y3 := ([[.i .i64 n13, .s (asS (resC y2 0 0))]] : Rw)
     chk ((flatR 2 y3) && decide (l4.length + y3.length ≤ lim)) <|
     la75o200006 t53 t74 t79 t92 n1 n2 n3 n4 s1 l1 b1 b2 b3 b4 l2 n5 n6 n7 n8 s2 l3 n9 n10 n11 n12 s3 n13 n14 n15 n16 s4 q1 m (w64 (n17 - (1 : Int))) (.d (.b y1)) (asI (outC y2 0 1)) (asI (outC y2 0 2)) (l4 ++ y3)
    else
     q1 n17 y1 n18 n19 l4
def la75o300006 (t53 : Y53) (t74 : Y74) (t79 : Y79) (t92 : Y92) (n1 n2 n3 n4 : Int) (s1 : ByteArray) (l1 : Rw) (n5 : Int) (b1 b2 b3 b4 b5 : Bool) (l2 : Rw) (n6 n7 n8 n9 : Int) (s2 : ByteArray) (l3 : Rw) (n10 n11 n12 n13 : Int) (s3 : ByteArray) (n14 n15 n16 n17 : Int) (s4 : ByteArray) (n18 n19 : Int) (s5 : ByteArray) (q1 : Int → Bool → Int → Int → Rw → Rs) : Nat → Int → SV → Int → Int → Rw → Rs
  | 0, _, _, _, _, _ => none
  | m + 1, n20, v1, n21, n22, l4 =>
    let y1 := (((decide (n20 > (0 : Int))) && (decide (n14 > (0 : Int)))) && (decide ((l4.length : Int) < (60 : Int)))) && (decide ((w64 (n16 + (l4.length : Int))) < (100000 : Int)))
    if y1 then
     let y2 := t92 l2 n21 n22 (6 : Int)
     chk (okR zr92 zo92 y2) <|
     let y3 := ([[.i .i64 n14, .s (asS (resC y2 0 0))]] : Rw)
     chk ((flatR 2 y3) && decide (l4.length + y3.length ≤ lim)) <|
     la75o300006 t53 t74 t79 t92 n1 n2 n3 n4 s1 l1 n5 b1 b2 b3 b4 b5 l2 n6 n7 n8 n9 s2 l3 n10 n11 n12 n13 s3 n14 n15 n16 n17 s4 n18 n19 s5 q1 m (w64 (n20 - (1 : Int))) (.d (.b y1)) (asI (outC y2 0 1)) (asI (outC y2 0 2)) (l4 ++ y3)
    else
     q1 n20 y1 n21 n22 l4
def la75o400006 (t53 : Y53) (t74 : Y74) (t79 : Y79) (t92 : Y92) (n1 n2 n3 n4 : Int) (s1 : ByteArray) (l1 : Rw) (n5 : Int) (b1 b2 b3 b4 b5 : Bool) (l2 : Rw) (n6 n7 n8 n9 : Int) (s2 : ByteArray) (l3 : Rw) (n10 n11 n12 n13 : Int) (s3 : ByteArray) (n14 n15 n16 n17 : Int) (s4 : ByteArray) (n18 n19 : Int) (s5 : ByteArray) (l4 : Rw) (q1 : Int → Bool → Int → Int → Rw → Rs) : Nat → Int → SV → Int → Int → Rw → Rs
  | 0, _, _, _, _, _ => none
  | m + 1, n20, v1, n21, n22, l5 =>
    let y1 := (((decide (n20 > (0 : Int))) && (decide (n14 > (0 : Int)))) && (decide ((l5.length : Int) < (60 : Int)))) && (decide ((w64 (n16 + (l5.length : Int))) < (100000 : Int)))
    if y1 then
     let y2 := t92 l2 n21 n22 (6 : Int)
     chk (okR zr92 zo92 y2) <|
     let y3 := ([[.i .i64 n14, .s (asS (resC y2 0 0))]] : Rw)
     chk ((flatR 2 y3) && decide (l5.length + y3.length ≤ lim)) <|
     la75o400006 t53 t74 t79 t92 n1 n2 n3 n4 s1 l1 n5 b1 b2 b3 b4 b5 l2 n6 n7 n8 n9 s2 l3 n10 n11 n12 n13 s3 n14 n15 n16 n17 s4 n18 n19 s5 l4 q1 m (w64 (n20 - (1 : Int))) (.d (.b y1)) (asI (outC y2 0 1)) (asI (outC y2 0 2)) (l5 ++ y3)
    else
     q1 n20 y1 n21 n22 l5
def la75o500006 (t53 : Y53) (t74 : Y74) (t79 : Y79) (t92 : Y92) (n1 n2 n3 n4 : Int) (s1 : ByteArray) (l1 : Rw) (b1 b2 b3 : Bool) (l2 : Rw) (n5 n6 n7 n8 : Int) (s2 : ByteArray) (l3 : Rw) (n9 n10 n11 n12 : Int) (s3 : ByteArray) (n13 n14 n15 n16 : Int) (s4 : ByteArray) (q1 : Int → Bool → Int → Int → Rw → Rs) : Nat → Int → SV → Int → Int → Rw → Rs
  | 0, _, _, _, _, _ => none
  | m + 1, n17, v1, n18, n19, l4 =>
    let y1 := (((decide (n17 > (0 : Int))) && (decide (n13 > (0 : Int)))) && (decide ((l4.length : Int) < (60 : Int)))) && (decide ((w64 (n15 + (l4.length : Int))) < (100000 : Int)))
    if y1 then
     let y2 := t92 l2 n18 n19 (6 : Int)
     chk (okR zr92 zo92 y2) <|
     let y3 := ([[.i .i64 n13, .s (asS (resC y2 0 0))]] : Rw)
     chk ((flatR 2 y3) && decide (l4.length + y3.length ≤ lim)) <|
     la75o500006 t53 t74 t79 t92 n1 n2 n3 n4 s1 l1 b1 b2 b3 l2 n5 n6 n7 n8 s2 l3 n9 n10 n11 n12 s3 n13 n14 n15 n16 s4 q1 m (w64 (n17 - (1 : Int))) (.d (.b y1)) (asI (outC y2 0 1)) (asI (outC y2 0 2)) (l4 ++ y3)
    else
     q1 n17 y1 n18 n19 l4
def ta75 (t53 : Y53) (t74 : Y74) (t79 : Y79) (t92 : Y92) (l1 : Rw) (n1 n2 n3 n4 n5 n6 : Int) (s1 : ByteArray) (l2 : Rw) : Rs :=
  let y1 := t53 n3 n4 n5 n6 s1 l2
  chk (okR zr53 zo53 y1) <|
  let y2 := t74 l1 n1 n2 (2 : Int)
  chk (okR zr74 zo74 y2) <|
  let k2 := fun (b1 : Bool) (n7 n8 n9 : Int) =>
   let y3 := asI (resC y1 0 0)
   let y4 := decide (y3 > (0 : Int))
   if y4 then
    let y5 := t74 l1 n7 n8 (4 : Int)
    chk (okR zr74 zo74 y5) <|
    let y6 := y4 && (asB (resC y5 0 0))
    if y6 then
     let y7 := asI (outC y5 0 1)
     let y8 := asI (outC y5 0 2)
     let y9 := asL (resC y1 0 5)
     let y10 := t79 l1 y7 y8 (w64 ((y9.length : Int) + (2 : Int)))
     chk (okR zr79 zo79 y10) <|
     let y11 := t92 l1 (asI (outC y10 0 1)) (asI (outC y10 0 2)) (9 : Int)
     chk (okR zr92 zo92 y11) <|
     let y12 := w64 ((1 : Int) + (asI (resC y10 0 0)))
     let y13 := decide (y12 ≤ (y9.length : Int))
     if y13 then
      let y14 := w64 (y12 - (1 : Int))
      chk (decide (0 ≤ y14) && decide (y14 < y9.length)) <|
      let y15 := y9.getD (y14.toNat) []
      chk (decide (1 ≤ y15.length) && isF z3 0 y15) <|
      chk (decide (0 ≤ y12 ∧ y12 ≤ y9.length)) <|
      let k3 := fun (n10 n11 : Int) (s2 : ByteArray) =>
       let y16 := asI (outC y11 0 1)
       let y17 := asI (outC y11 0 2)
       let y18 := t74 l1 y16 y17 (3 : Int)
       chk (okR zr74 zo74 y18) <|
       let k5 := fun (n12 n13 : Int) (l3 : Rw) =>
        let y19 := t79 l1 n12 n13 (4 : Int)
        chk (okR zr79 zo79 y19) <|
        let y20 := (asB (resC y2 0 0)) && (decide (y3 < (100000 : Int)))
        let y21 := asI (resC y1 0 2)
        let y22 := w64 (y21 + y12)
        let y23 := decide (y22 ≤ (100000 : Int))
        let y24 := asB (resC y18 0 0)
        let y25 := asI (nthD y15 0)
        let y26 := asS (resC y11 0 0)
        la75o6 t53 t74 t79 t92 n3 n4 n5 n6 s1 l2 y12 y20 b1 y6 y13 y23 y24 l1 n3 n4 n5 n6 s1 l2 (0 : Int) (0 : Int) (0 : Int) (0 : Int) (⟨#[]⟩ : ByteArray) y3 n9 n10 n11 s2 y22 y25 y26
         (fun (n14 : Int) (b2 : Bool) (n15 n16 : Int) (l4 : Rw) =>
          some ([.agg [.i .i64 y3, .i .i64 n9, .i .i64 n10, .i .i64 n11, .s s2, .l l4]], [[.l l1, .i .i64 n15, .i .i64 n16]])) KK (asI (resC y19 0 0)) SV.undef (asI (outC y19 0 1)) (asI (outC y19 0 2)) l3
       let y27 := asB (resC y18 0 0)
       if y27 then
        let y28 := asI (outC y18 0 1)
        let y29 := asI (outC y18 0 2)
        let y30 := y9.drop y12.toNat
        let y31 := t79 l1 y28 y29 (w64 ((y30.length : Int) + (1 : Int)))
        chk (okR zr79 zo79 y31) <|
        let y32 := asI (resC y31 0 0)
        chk (decide (0 ≤ y32 ∧ y32 ≤ y30.length)) <|
        k5 (asI (outC y31 0 1)) (asI (outC y31 0 2)) (y30.take y32.toNat)
       else
        let y33 := asI (outC y18 0 1)
        let y34 := asI (outC y18 0 2)
        let y35 := y9.drop y12.toNat
        k5 y33 y34 y35
      let y36 := asI (resC y1 0 2)
      let y37 := w64 (y36 + y12)
      let y38 := decide (y37 ≤ (100000 : Int))
      if y38 then
       let y39 := asI (nthD y15 0)
       let y40 := asS (resC y11 0 0)
       k3 y37 y39 y40
      else
       let y41 := asI (resC y1 0 3)
       let y42 := asS (resC y1 0 4)
       k3 y36 y41 y42
     else
      let k4 := fun (n17 n18 : Int) (s3 : ByteArray) =>
       let y43 := asI (outC y11 0 1)
       let y44 := asI (outC y11 0 2)
       let y45 := t74 l1 y43 y44 (3 : Int)
       chk (okR zr74 zo74 y45) <|
       let k6 := fun (n19 n20 : Int) (l5 : Rw) =>
        let y46 := t79 l1 n19 n20 (4 : Int)
        chk (okR zr79 zo79 y46) <|
        let y47 := (asB (resC y2 0 0)) && (decide (y3 < (100000 : Int)))
        let y48 := asI (resC y1 0 2)
        let y49 := w64 (y48 + y12)
        let y50 := decide (y49 ≤ (100000 : Int))
        let y51 := asB (resC y45 0 0)
        let y52 := asS (resC y11 0 0)
        la75o100006 t53 t74 t79 t92 n3 n4 n5 n6 s1 l2 y12 y47 b1 y6 y13 y50 y51 l1 n3 n4 n5 n6 s1 l2 (0 : Int) (0 : Int) (0 : Int) (0 : Int) (⟨#[]⟩ : ByteArray) y3 n9 n17 n18 s3 y49 y3 y52 y9
         (fun (n21 : Int) (b3 : Bool) (n22 n23 : Int) (l6 : Rw) =>
          some ([.agg [.i .i64 y3, .i .i64 n9, .i .i64 n17, .i .i64 n18, .s s3, .l l6]], [[.l l1, .i .i64 n22, .i .i64 n23]])) KK (asI (resC y46 0 0)) SV.undef (asI (outC y46 0 1)) (asI (outC y46 0 2)) l5
       let y53 := asB (resC y45 0 0)
       if y53 then
        let y54 := asI (outC y45 0 1)
        let y55 := asI (outC y45 0 2)
        let y56 := t79 l1 y54 y55 (w64 ((([] : Rw).length : Int) + (1 : Int)))
        chk (okR zr79 zo79 y56) <|
        let y57 := asI (resC y56 0 0)
        chk (decide (0 ≤ y57 ∧ y57 ≤ ([] : Rw).length)) <|
        k6 (asI (outC y56 0 1)) (asI (outC y56 0 2)) (([] : Rw).take y57.toNat)
       else
        let y58 := asI (outC y45 0 1)
        let y59 := asI (outC y45 0 2)
        k6 y58 y59 ([] : Rw)
      let y60 := asI (resC y1 0 2)
      let y61 := w64 (y60 + y12)
      let y62 := decide (y61 ≤ (100000 : Int))
      if y62 then
       let y63 := asS (resC y11 0 0)
       k4 y61 y3 y63
      else
       let y64 := asI (resC y1 0 3)
       let y65 := asS (resC y1 0 4)
       k4 y60 y64 y65
    else
     let y66 := asI (outC y5 0 1)
     let y67 := asI (outC y5 0 2)
     let y68 := t74 l1 y66 y67 (3 : Int)
     chk (okR zr74 zo74 y68) <|
     let k7 := fun (n24 n25 : Int) (l7 : Rw) =>
      let y69 := t79 l1 n24 n25 (4 : Int)
      chk (okR zr79 zo79 y69) <|
      let y70 := (asB (resC y2 0 0)) && (decide (y3 < (100000 : Int)))
      let y71 := asB (resC y68 0 0)
      let y72 := asI (resC y1 0 2)
      let y73 := asI (resC y1 0 3)
      let y74 := asS (resC y1 0 4)
      la75o200006 t53 t74 t79 t92 n3 n4 n5 n6 s1 l2 y70 b1 y6 y71 l1 n3 n4 n5 n6 s1 l2 (0 : Int) (0 : Int) (0 : Int) (0 : Int) (⟨#[]⟩ : ByteArray) y3 n9 y72 y73 y74
       (fun (n26 : Int) (b4 : Bool) (n27 n28 : Int) (l8 : Rw) =>
        some ([.agg [.i .i64 y3, .i .i64 n9, .i .i64 y72, .i .i64 y73, .s y74, .l l8]], [[.l l1, .i .i64 n27, .i .i64 n28]])) KK (asI (resC y69 0 0)) SV.undef (asI (outC y69 0 1)) (asI (outC y69 0 2)) l7
     let y75 := asB (resC y68 0 0)
     if y75 then
      let y76 := asI (outC y68 0 1)
      let y77 := asI (outC y68 0 2)
      let y78 := asL (resC y1 0 5)
      let y79 := t79 l1 y76 y77 (w64 ((y78.length : Int) + (1 : Int)))
      chk (okR zr79 zo79 y79) <|
      let y80 := asI (resC y79 0 0)
      chk (decide (0 ≤ y80 ∧ y80 ≤ y78.length)) <|
      k7 (asI (outC y79 0 1)) (asI (outC y79 0 2)) (y78.take y80.toNat)
     else
      let y81 := asI (outC y68 0 1)
      let y82 := asI (outC y68 0 2)
      let y83 := asL (resC y1 0 5)
      k7 y81 y82 y83
   else
    chk (!y4) <|
    let y84 := t74 l1 n7 n8 (3 : Int)
    chk (okR zr74 zo74 y84) <|
    let k8 := fun (n29 n30 : Int) (l9 : Rw) =>
     let y85 := t79 l1 n29 n30 (4 : Int)
     chk (okR zr79 zo79 y85) <|
     let y86 := (asB (resC y2 0 0)) && (decide (y3 < (100000 : Int)))
     let y87 := asB (resC y84 0 0)
     let y88 := asI (resC y1 0 2)
     let y89 := asI (resC y1 0 3)
     let y90 := asS (resC y1 0 4)
     la75o200006 t53 t74 t79 t92 n3 n4 n5 n6 s1 l2 y86 b1 false y87 l1 n3 n4 n5 n6 s1 l2 (0 : Int) (0 : Int) (0 : Int) (0 : Int) (⟨#[]⟩ : ByteArray) y3 n9 y88 y89 y90
      (fun (n31 : Int) (b5 : Bool) (n32 n33 : Int) (l10 : Rw) =>
       some ([.agg [.i .i64 y3, .i .i64 n9, .i .i64 y88, .i .i64 y89, .s y90, .l l10]], [[.l l1, .i .i64 n32, .i .i64 n33]])) KK (asI (resC y85 0 0)) SV.undef (asI (outC y85 0 1)) (asI (outC y85 0 2)) l9
    let y91 := asB (resC y84 0 0)
    if y91 then
     let y92 := asI (outC y84 0 1)
     let y93 := asI (outC y84 0 2)
     let y94 := asL (resC y1 0 5)
     let y95 := t79 l1 y92 y93 (w64 ((y94.length : Int) + (1 : Int)))
     chk (okR zr79 zo79 y95) <|
     let y96 := asI (resC y95 0 0)
     chk (decide (0 ≤ y96 ∧ y96 ≤ y94.length)) <|
     k8 (asI (outC y95 0 1)) (asI (outC y95 0 2)) (y94.take y96.toNat)
    else
     let y97 := asI (outC y84 0 1)
     let y98 := asI (outC y84 0 2)
     let y99 := asL (resC y1 0 5)
     k8 y97 y98 y99
  let y100 := asI (resC y1 0 0)
  let y101 := (asB (resC y2 0 0)) && (decide (y100 < (100000 : Int)))
  if y101 then
   let y102 := asI (outC y2 0 1)
   let y103 := asI (outC y2 0 2)
   let y104 := t79 l1 y102 y103 (6 : Int)
   chk (okR zr79 zo79 y104) <|
   let y105 := w64 (y100 + (1 : Int))
   let y106 := decide (y105 > (0 : Int))
   if y106 then
    let y107 := asI (outC y104 0 1)
    let y108 := asI (outC y104 0 2)
    let y109 := t74 l1 y107 y108 (4 : Int)
    chk (okR zr74 zo74 y109) <|
    let y110 := y106 && (asB (resC y109 0 0))
    if y110 then
     let y111 := asI (outC y109 0 1)
     let y112 := asI (outC y109 0 2)
     let y113 := asL (resC y1 0 5)
     let y114 := t79 l1 y111 y112 (w64 ((y113.length : Int) + (2 : Int)))
     chk (okR zr79 zo79 y114) <|
     let y115 := t92 l1 (asI (outC y114 0 1)) (asI (outC y114 0 2)) (9 : Int)
     chk (okR zr92 zo92 y115) <|
     let y116 := w64 ((1 : Int) + (asI (resC y114 0 0)))
     let y117 := decide (y116 ≤ (y113.length : Int))
     if y117 then
      let y118 := w64 (y116 - (1 : Int))
      chk (decide (0 ≤ y118) && decide (y118 < y113.length)) <|
      let y119 := y113.getD (y118.toNat) []
      chk (decide (1 ≤ y119.length) && isF z3 0 y119) <|
      chk (decide (0 ≤ y116 ∧ y116 ≤ y113.length)) <|
      let k9 := fun (n34 n35 : Int) (s4 : ByteArray) =>
       let y120 := asI (outC y115 0 1)
       let y121 := asI (outC y115 0 2)
       let y122 := t74 l1 y120 y121 (3 : Int)
       chk (okR zr74 zo74 y122) <|
       let k11 := fun (n36 n37 : Int) (l11 : Rw) =>
        let y123 := t79 l1 n36 n37 (4 : Int)
        chk (okR zr79 zo79 y123) <|
        let y124 := asI (resC y1 0 2)
        let y125 := w64 (y124 + y116)
        let y126 := decide (y125 ≤ (100000 : Int))
        let y127 := asB (resC y122 0 0)
        let y128 := w64 ((asI (resC y104 0 0)) - (1 : Int))
        let y129 := asI (nthD y119 0)
        let y130 := asS (resC y115 0 0)
        la75o300006 t53 t74 t79 t92 n3 n4 n5 n6 s1 l2 y116 y101 y110 y117 y126 y127 l1 n3 n4 n5 n6 s1 l2 (0 : Int) (0 : Int) (0 : Int) (0 : Int) (⟨#[]⟩ : ByteArray) y105 y128 n34 n35 s4 y125 y129 y130
         (fun (n38 : Int) (b6 : Bool) (n39 n40 : Int) (l12 : Rw) =>
          some ([.agg [.i .i64 y105, .i .i64 y128, .i .i64 n34, .i .i64 n35, .s s4, .l l12]], [[.l l1, .i .i64 n39, .i .i64 n40]])) KK (asI (resC y123 0 0)) SV.undef (asI (outC y123 0 1)) (asI (outC y123 0 2)) l11
       let y131 := asB (resC y122 0 0)
       if y131 then
        let y132 := asI (outC y122 0 1)
        let y133 := asI (outC y122 0 2)
        let y134 := y113.drop y116.toNat
        let y135 := t79 l1 y132 y133 (w64 ((y134.length : Int) + (1 : Int)))
        chk (okR zr79 zo79 y135) <|
        let y136 := asI (resC y135 0 0)
        chk (decide (0 ≤ y136 ∧ y136 ≤ y134.length)) <|
        k11 (asI (outC y135 0 1)) (asI (outC y135 0 2)) (y134.take y136.toNat)
       else
        let y137 := asI (outC y122 0 1)
        let y138 := asI (outC y122 0 2)
        let y139 := y113.drop y116.toNat
        k11 y137 y138 y139
      let y140 := asI (resC y1 0 2)
      let y141 := w64 (y140 + y116)
      let y142 := decide (y141 ≤ (100000 : Int))
      if y142 then
       let y143 := asI (nthD y119 0)
       let y144 := asS (resC y115 0 0)
       k9 y141 y143 y144
      else
       let y145 := asI (resC y1 0 3)
       let y146 := asS (resC y1 0 4)
       k9 y140 y145 y146
     else
      let k10 := fun (n41 n42 : Int) (s5 : ByteArray) =>
       let y147 := asI (outC y115 0 1)
       let y148 := asI (outC y115 0 2)
       let y149 := t74 l1 y147 y148 (3 : Int)
       chk (okR zr74 zo74 y149) <|
       let k12 := fun (n43 n44 : Int) (l13 : Rw) =>
        let y150 := t79 l1 n43 n44 (4 : Int)
        chk (okR zr79 zo79 y150) <|
        let y151 := asI (resC y1 0 2)
        let y152 := w64 (y151 + y116)
        let y153 := decide (y152 ≤ (100000 : Int))
        let y154 := asB (resC y149 0 0)
        let y155 := w64 ((asI (resC y104 0 0)) - (1 : Int))
        let y156 := asS (resC y115 0 0)
        la75o400006 t53 t74 t79 t92 n3 n4 n5 n6 s1 l2 y116 y101 y110 y117 y153 y154 l1 n3 n4 n5 n6 s1 l2 (0 : Int) (0 : Int) (0 : Int) (0 : Int) (⟨#[]⟩ : ByteArray) y105 y155 n41 n42 s5 y152 y105 y156 y113
         (fun (n45 : Int) (b7 : Bool) (n46 n47 : Int) (l14 : Rw) =>
          some ([.agg [.i .i64 y105, .i .i64 y155, .i .i64 n41, .i .i64 n42, .s s5, .l l14]], [[.l l1, .i .i64 n46, .i .i64 n47]])) KK (asI (resC y150 0 0)) SV.undef (asI (outC y150 0 1)) (asI (outC y150 0 2)) l13
       let y157 := asB (resC y149 0 0)
       if y157 then
        let y158 := asI (outC y149 0 1)
        let y159 := asI (outC y149 0 2)
        let y160 := t79 l1 y158 y159 (w64 ((([] : Rw).length : Int) + (1 : Int)))
        chk (okR zr79 zo79 y160) <|
        let y161 := asI (resC y160 0 0)
        chk (decide (0 ≤ y161 ∧ y161 ≤ ([] : Rw).length)) <|
        k12 (asI (outC y160 0 1)) (asI (outC y160 0 2)) (([] : Rw).take y161.toNat)
       else
        let y162 := asI (outC y149 0 1)
        let y163 := asI (outC y149 0 2)
        k12 y162 y163 ([] : Rw)
      let y164 := asI (resC y1 0 2)
      let y165 := w64 (y164 + y116)
      let y166 := decide (y165 ≤ (100000 : Int))
      if y166 then
       let y167 := asS (resC y115 0 0)
       k10 y165 y105 y167
      else
       let y168 := asI (resC y1 0 3)
       let y169 := asS (resC y1 0 4)
       k10 y164 y168 y169
    else
     let y170 := asI (outC y109 0 1)
     let y171 := asI (outC y109 0 2)
     let y172 := t74 l1 y170 y171 (3 : Int)
     chk (okR zr74 zo74 y172) <|
     let k13 := fun (n48 n49 : Int) (l15 : Rw) =>
      let y173 := t79 l1 n48 n49 (4 : Int)
      chk (okR zr79 zo79 y173) <|
      let y174 := asB (resC y172 0 0)
      let y175 := w64 ((asI (resC y104 0 0)) - (1 : Int))
      let y176 := asI (resC y1 0 2)
      let y177 := asI (resC y1 0 3)
      let y178 := asS (resC y1 0 4)
      la75o500006 t53 t74 t79 t92 n3 n4 n5 n6 s1 l2 y101 y110 y174 l1 n3 n4 n5 n6 s1 l2 (0 : Int) (0 : Int) (0 : Int) (0 : Int) (⟨#[]⟩ : ByteArray) y105 y175 y176 y177 y178
       (fun (n50 : Int) (b8 : Bool) (n51 n52 : Int) (l16 : Rw) =>
        some ([.agg [.i .i64 y105, .i .i64 y175, .i .i64 y176, .i .i64 y177, .s y178, .l l16]], [[.l l1, .i .i64 n51, .i .i64 n52]])) KK (asI (resC y173 0 0)) SV.undef (asI (outC y173 0 1)) (asI (outC y173 0 2)) l15
     let y179 := asB (resC y172 0 0)
     if y179 then
      let y180 := asI (outC y172 0 1)
      let y181 := asI (outC y172 0 2)
      let y182 := asL (resC y1 0 5)
      let y183 := t79 l1 y180 y181 (w64 ((y182.length : Int) + (1 : Int)))
      chk (okR zr79 zo79 y183) <|
      let y184 := asI (resC y183 0 0)
      chk (decide (0 ≤ y184 ∧ y184 ≤ y182.length)) <|
      k13 (asI (outC y183 0 1)) (asI (outC y183 0 2)) (y182.take y184.toNat)
     else
      let y185 := asI (outC y172 0 1)
      let y186 := asI (outC y172 0 2)
      let y187 := asL (resC y1 0 5)
      k13 y185 y186 y187
   else
    chk (!y106) <|
    let y188 := asI (outC y104 0 1)
    let y189 := asI (outC y104 0 2)
    let y190 := t74 l1 y188 y189 (3 : Int)
    chk (okR zr74 zo74 y190) <|
    let k14 := fun (n53 n54 : Int) (l17 : Rw) =>
     let y191 := t79 l1 n53 n54 (4 : Int)
     chk (okR zr79 zo79 y191) <|
     let y192 := asB (resC y190 0 0)
     let y193 := w64 ((asI (resC y104 0 0)) - (1 : Int))
     let y194 := asI (resC y1 0 2)
     let y195 := asI (resC y1 0 3)
     let y196 := asS (resC y1 0 4)
     la75o500006 t53 t74 t79 t92 n3 n4 n5 n6 s1 l2 y101 false y192 l1 n3 n4 n5 n6 s1 l2 (0 : Int) (0 : Int) (0 : Int) (0 : Int) (⟨#[]⟩ : ByteArray) y105 y193 y194 y195 y196
      (fun (n55 : Int) (b9 : Bool) (n56 n57 : Int) (l18 : Rw) =>
       some ([.agg [.i .i64 y105, .i .i64 y193, .i .i64 y194, .i .i64 y195, .s y196, .l l18]], [[.l l1, .i .i64 n56, .i .i64 n57]])) KK (asI (resC y191 0 0)) SV.undef (asI (outC y191 0 1)) (asI (outC y191 0 2)) l17
    let y197 := asB (resC y190 0 0)
    if y197 then
     let y198 := asI (outC y190 0 1)
     let y199 := asI (outC y190 0 2)
     let y200 := asL (resC y1 0 5)
     let y201 := t79 l1 y198 y199 (w64 ((y200.length : Int) + (1 : Int)))
     chk (okR zr79 zo79 y201) <|
     let y202 := asI (resC y201 0 0)
     chk (decide (0 ≤ y202 ∧ y202 ≤ y200.length)) <|
     k14 (asI (outC y201 0 1)) (asI (outC y201 0 2)) (y200.take y202.toNat)
    else
     let y203 := asI (outC y190 0 1)
     let y204 := asI (outC y190 0 2)
     let y205 := asL (resC y1 0 5)
     k14 y203 y204 y205
  else
   let y206 := asI (resC y1 0 1)
   let y207 := y206 == (-1 : Int)
   if y207 then
    let y208 := asI (outC y2 0 1)
    let y209 := asI (outC y2 0 2)
    let y210 := t74 l1 y208 y209 (2 : Int)
    chk (okR zr74 zo74 y210) <|
    let k1 := fun (n58 n59 n60 : Int) =>
     let y211 := y207 && (asB (resC y210 0 0))
     k2 y211 n58 n59 n60
    let y212 := y207 && (asB (resC y210 0 0))
    if y212 then
     let y213 := asI (outC y210 0 1)
     let y214 := asI (outC y210 0 2)
     let y215 := t79 l1 y213 y214 (5 : Int)
     chk (okR zr79 zo79 y215) <|
     k1 (asI (outC y215 0 1)) (asI (outC y215 0 2)) (asI (resC y215 0 0))
    else
     let y216 := asI (outC y210 0 1)
     let y217 := asI (outC y210 0 2)
     k1 y216 y217 y206
   else
    chk (!y207) <|
    let y218 := asI (outC y2 0 1)
    let y219 := asI (outC y2 0 2)
    k2 false y218 y219 y206
def t75 : Y75 := ta75 t53 t74 t79 t92
def zr75 : List DV := [.agg [.i .i64 0, .i .i64 0, .i .i64 0, .i .i64 0, .s ⟨#[]⟩, .l []]]
def zo75 : Rw := [[.l [], .i .i64 0, .i .i64 0]]
def A75 : List TA := [.ptr [.l, .i .i64, .i .i64], .agg [.i .i64, .i .i64, .i .i64, .i .i64, .s, .l]]
abbrev Y44 := Rw → Rs
def ta44 (t72 : Y72) (t73 : Y73) (t74 : Y74) (t75 : Y75) (l1 : Rw) : Rs :=
  chk (okR zr72 zo72 (t72 l1)) <|
  let y1 := asL (resC (t72 l1) 0 0)
  let y2 := t73 y1 (asI (resC (t72 l1) 0 1)) (asI (resC (t72 l1) 0 2))
  chk (okR zr73 zo73 y2) <|
  let y3 := t74 y1 (asI (outC y2 0 1)) (asI (outC y2 0 2)) (6 : Int)
  chk (okR zr74 zo74 y3) <|
  if asB (resC y3 0 0) then
   let y4 := asI (outC y3 0 1)
   let y5 := asI (outC y3 0 2)
   let y6 := t73 y1 y4 y5
   chk (okR zr73 zo73 y6) <|
   let y7 := asI (resC y2 0 0)
   let y8 := asI (resC y2 0 1)
   let y9 := asI (resC y2 0 2)
   let y10 := asI (resC y2 0 3)
   let y11 := asS (resC y2 0 4)
   let y12 := asL (resC y2 0 5)
   some ([.agg [.i .i64 y7, .i .i64 y8, .i .i64 y9, .i .i64 y10, .s y11, .l y12], .agg [.i .i64 (asI (resC y6 0 0)), .i .i64 (asI (resC y6 0 1)), .i .i64 (asI (resC y6 0 2)), .i .i64 (asI (resC y6 0 3)), .s (asS (resC y6 0 4)), .l (asL (resC y6 0 5))]], [])
  else
   let y13 := asI (outC y3 0 1)
   let y14 := asI (outC y3 0 2)
   let y15 := asI (resC y2 0 0)
   let y16 := asI (resC y2 0 1)
   let y17 := asI (resC y2 0 2)
   let y18 := asI (resC y2 0 3)
   let y19 := asS (resC y2 0 4)
   let y20 := asL (resC y2 0 5)
   let y21 := t75 y1 y13 y14 y15 y16 y17 y18 y19 y20
   chk (okR zr75 zo75 y21) <|
   some ([.agg [.i .i64 y15, .i .i64 y16, .i .i64 y17, .i .i64 y18, .s y19, .l y20], .agg [.i .i64 (asI (resC y21 0 0)), .i .i64 (asI (resC y21 0 1)), .i .i64 (asI (resC y21 0 2)), .i .i64 (asI (resC y21 0 3)), .s (asS (resC y21 0 4)), .l (asL (resC y21 0 5))]], [])
def t44 : Y44 := ta44 t72 t73 t74 t75
def zr44 : List DV := [.agg [.i .i64 0, .i .i64 0, .i .i64 0, .i .i64 0, .s ⟨#[]⟩, .l []], .agg [.i .i64 0, .i .i64 0, .i .i64 0, .i .i64 0, .s ⟨#[]⟩, .l []]]
def zo44 : Rw := []
def A44 : List TA := [.one (.l)]
abbrev Y76 := Int → Int → Int → Rs
def t76 (n1 n2 n3 : Int) : Rs :=
  some ([.one (.b ((decide (n1 ≥ n2)) && (decide (n1 ≤ n3))))], [])
def zr76 : List DV := [.one (.b false)]
def zo76 : Rw := []
def A76 : List TA := [.one (.i .i64), .one (.i .i64), .one (.i .i64)]
abbrev Y56 := Int → Int → Int → Int → ByteArray → Rw → Rs
def la56o2 (t76 : Y76) (n1 n2 n3 n4 : Int) (s1 : ByteArray) (l1 : Rw) (b1 b2 b3 : Bool) (l2 : Rw) (n5 n6 n7 n8 n9 : Int) (s2 : ByteArray) (l3 : Rw) (q1 : Int → Int → Bool → Bool → Int → ByteArray → Rs) (q2 : Int → Int → Bool → SV → Rs) : Nat → Int → Int → SV → SV → Rs
  | 0, _, _, _, _ => none
  | m + 1, n10, n11, v1, v2 =>
    let y1 := decide (n11 < n5)
    if y1 then
     let y2 := l2.getD n11.toNat []
     chk (decide (0 ≤ n11) && decide (n11 < l2.length) && isRow z90 y2) <|
     let y3 := asI (nthD y2 0)
     let y4 := t76 y3 n10 n6
     let y5 := asS (nthD y2 1)
     let y6 := decide ((y5.size : Int) > (1600 : Int))
     chk ((okR zr76 zo76 y4) || !(!y6)) <|
     let y7 := y6 || (!(asB (resC y4 0 0)))
     if y7 then
      q1 n10 n11 y1 y7 y3 y5
     else
      la56o2 t76 n1 n2 n3 n4 s1 l1 b1 b2 b3 l2 n5 n6 n7 n8 n9 s2 l3 q1 q2 m y3 (w64 (n11 + (1 : Int))) (.d (.b y1)) (.d (.b y7))
    else
     q2 n10 n11 y1 (keepV [64] v2)
def ta56 (t76 : Y76) (n1 n2 n3 n4 : Int) (s1 : ByteArray) (l1 : Rw) : Rs :=
  let y1 := t76 n1 (0 : Int) (100000 : Int)
  chk (okR zr76 zo76 y1) <|
  let y2 := t76 n2 (-1 : Int) (4 : Int)
  let y3 := !(asB (resC y1 0 0))
  chk ((okR zr76 zo76 y2) || !(!y3)) <|
  let y4 := (y3 || (!(asB (resC y2 0 0)))) || (decide ((l1.length : Int) > (60 : Int)))
  if y4 then
   some ([.one (.b false)], [])
  else
   let y5 := t76 n3 (1 : Int) (100000 : Int)
   let y6 := !((n3 == (0 : Int)) && ((n4 == (0 : Int)) && ((s1.toList == (⟨#[]⟩ : ByteArray).toList) && true)))
   chk ((okR zr76 zo76 y5) || !y6) <|
   let y7 := t76 n4 (1 : Int) n1
   let y8 := !(asB (resC y5 0 0))
   chk ((okR zr76 zo76 y7) || !(y6 && (!y8))) <|
   let y9 := y6 && ((y8 || (!(asB (resC y7 0 0)))) || (decide ((s1.size : Int) > (20000 : Int))))
   if y9 then
    some ([.one (.b false)], [])
   else
    la56o2 t76 n1 n2 n3 n4 s1 l1 false y4 y9 l1 (l1.length : Int) n1 n2 n3 n4 s1 l1
     (fun (n5 n6 : Int) (b1 b2 : Bool) (n7 : Int) (s2 : ByteArray) =>
      some ([.one (.b false)], []))
     (fun (n8 n9 : Int) (b3 : Bool) (v1 : SV) =>
      some ([.one (.b (decide ((w64 (n3 + (l1.length : Int))) ≤ (100000 : Int))))], [])) KK (if n4 > (1 : Int) then n4 else (1 : Int)) (0 : Int) SV.undef SV.undef
def t56 : Y56 := ta56 t76
def zr56 : List DV := [.one (.b false)]
def zo56 : Rw := []
def A56 : List TA := [.agg [.i .i64, .i .i64, .i .i64, .i .i64, .s, .l]]
abbrev Y57 := Int → Int → Int → Int → ByteArray → Rw → Rs
def t57 (n1 n2 n3 n4 : Int) (s1 : ByteArray) (l1 : Rw) : Rs :=
  chk ((flatR 2 l1) && decide (l1.length ≤ lim)) <|
  some ([.agg [.i .i64 n1, .i .i64 n2, .i .i64 n3, .i .i64 n4, .s s1, .l l1]], [])
def zr57 : List DV := [.agg [.i .i64 0, .i .i64 0, .i .i64 0, .i .i64 0, .s ⟨#[]⟩, .l []]]
def zo57 : Rw := []
def A57 : List TA := [.agg [.i .i64, .i .i64, .i .i64, .i .i64, .s, .l]]
abbrev Y45 := Int → Int → Int → Int → ByteArray → Rs
def ta45 (t76 : Y76) (n1 n2 n3 n4 : Int) (s1 : ByteArray) : Rs :=
  if n1 == (1 : Int) then
   let y1 := t76 n2 (0 : Int) (100000 : Int)
   chk (okR zr76 zo76 y1) <|
   let y2 := t76 n4 (-1 : Int) (4 : Int)
   let y3 := asB (resC y1 0 0)
   chk ((okR zr76 zo76 y2) || !y3) <|
   some ([.one (.b ((y3 && (asB (resC y2 0 0))) && ((n1 == n1) && ((n2 == n2) && ((n3 == (0 : Int)) && ((n4 == n4) && ((s1.toList == (⟨#[]⟩ : ByteArray).toList) && true)))))))], [])
  else
   if n1 == (2 : Int) then
    let y4 := t76 n2 (1 : Int) (100000 : Int)
    chk (okR zr76 zo76 y4) <|
    let y5 := t76 n3 (1 : Int) (100000 : Int)
    let y6 := asB (resC y4 0 0)
    chk ((okR zr76 zo76 y5) || !y6) <|
    some ([.one (.b (((y6 && (asB (resC y5 0 0))) && (decide ((s1.size : Int) ≤ (1600 : Int)))) && ((n1 == n1) && ((n2 == n2) && ((n3 == n3) && ((n4 == (0 : Int)) && ((s1.toList == s1.toList) && true)))))))], [])
   else
    if n1 == (3 : Int) then
     let y7 := t76 n3 (1 : Int) (100000 : Int)
     chk (okR zr76 zo76 y7) <|
     some ([.one (.b ((asB (resC y7 0 0)) && ((n1 == n1) && ((n2 == (0 : Int)) && ((n3 == n3) && ((n4 == (0 : Int)) && ((s1.toList == (⟨#[]⟩ : ByteArray).toList) && true)))))))], [])
    else
     let k1 := fun (b1 : Bool) (n5 n6 : Int) (s2 : ByteArray) =>
      some ([.one (.b (b1 && ((n1 == n1) && ((n2 == n5) && ((n3 == n6) && ((n4 == (0 : Int)) && ((s1.toList == s2.toList) && true)))))))], [])
     if n1 == (4 : Int) then
      let y8 := t76 n2 (1 : Int) (100000 : Int)
      chk (okR zr76 zo76 y8) <|
      let y9 := t76 n3 (1 : Int) (100000 : Int)
      let y10 := asB (resC y8 0 0)
      chk ((okR zr76 zo76 y9) || !y10) <|
      k1 ((y10 && (asB (resC y9 0 0))) && (decide ((s1.size : Int) ≤ (20000 : Int)))) n2 n3 s1
     else
      k1 false (0 : Int) (0 : Int) (⟨#[]⟩ : ByteArray)
def t45 : Y45 := ta45 t76
def zr45 : List DV := [.one (.b false)]
def zo45 : Rw := []
def A45 : List TA := [.agg [.i .i64, .i .i64, .i .i64, .i .i64, .s]]
abbrev Y95 := Int → Int → Int → Int → ByteArray → Rw → Rs
def t95 (n1 n2 n3 n4 : Int) (s1 : ByteArray) (l1 : Rw) : Rs :=
  let y1 := (l1.length : Int)
  if y1 == (0 : Int) then
   some ([.one (.i .i64 n3), .one (.i .i64 n4)], [])
  else
   let y2 := w64 (y1 - (1 : Int))
   let y3 := l1.getD y2.toNat []
   chk (decide (0 ≤ y2) && decide (y2 < l1.length) && isRow z90 y3) <|
   some ([.one (.i .i64 (w64 (n3 + y1))), .one (.i .i64 (asI (nthD y3 0)))], [])
def zr95 : List DV := [.one (.i .i64 0), .one (.i .i64 0)]
def zo95 : Rw := []
def A95 : List TA := [.ptr [.i .i64, .i .i64, .i .i64, .i .i64, .s, .l]]
abbrev Y88 := Int → Int → Int → Int → ByteArray → Rw → Int → Int → Int → Int → ByteArray → Rs
def ta88 (t76 : Y76) (t95 : Y95) (n1 n2 n3 n4 : Int) (s1 : ByteArray) (l1 : Rw) (n5 n6 n7 n8 : Int) (s2 : ByteArray) : Rs :=
  let y1 := t95 n1 n2 n3 n4 s1 l1
  chk (okR zr95 zo95 y1) <|
  if n5 == (1 : Int) then
   some ([.one (.b ((decide (n6 > n1)) || ((n6 == n1) && ((n2 == (-1 : Int)) || (n2 == n8)))))], [])
  else
   if n5 == (2 : Int) then
    let y2 := t76 n6 (asI (resC y1 1 0)) n1
    let y3 := asI (resC y1 0 0)
    let y4 := (n7 == (w64 (y3 + (1 : Int)))) && (decide ((l1.length : Int) < (60 : Int)))
    chk ((okR zr76 zo76 y2) || !y4) <|
    some ([.one (.b (y4 && (asB (resC y2 0 0))))], [])
   else
    if n5 == (3 : Int) then
     let y5 := asI (resC y1 0 0)
     let y6 := t76 n7 (w64 (n3 + (1 : Int))) y5
     chk (okR zr76 zo76 y6) <|
     some ([.one (.b (asB (resC y6 0 0)))], [])
    else
     some ([.one (.b ((decide (n7 > n3)) && (decide (n6 ≤ n1))))], [])
def t88 : Y88 := ta88 t76 t95
def zr88 : List DV := [.one (.b false)]
def zo88 : Rw := []
def A88 : List TA := [.ptr [.i .i64, .i .i64, .i .i64, .i .i64, .s, .l], .agg [.i .i64, .i .i64, .i .i64, .i .i64, .s]]
abbrev Y58 := Int → Int → Int → Int → ByteArray → Rw → Int → Int → Int → Int → ByteArray → Rs
def ta58 (t45 : Y45) (t88 : Y88) (n1 n2 n3 n4 : Int) (s1 : ByteArray) (l1 : Rw) (n5 n6 n7 n8 : Int) (s2 : ByteArray) : Rs :=
  let y1 := t45 n5 n6 n7 n8 s2
  chk (okR zr45 zo45 y1) <|
  let y2 := t88 n1 n2 n3 n4 s1 l1 n5 n6 n7 n8 s2
  let y3 := !(asB (resC y1 0 0))
  chk ((okR zr88 zo88 y2) || !(!y3)) <|
  if y3 || (!(asB (resC y2 0 0))) then
   some ([.one (.b false)], [[.i .i64 n1, .i .i64 n2, .i .i64 n3, .i .i64 n4, .s s1, .l l1]])
  else
   if n5 == (1 : Int) then
    some ([.one (.b true)], [[.i .i64 n6, .i .i64 n8, .i .i64 n3, .i .i64 n4, .s s1, .l l1]])
   else
    if n5 == (2 : Int) then
     let y4 := ([[.i .i64 n6, .s s2]] : Rw)
     chk ((flatR 2 y4) && decide (l1.length + y4.length ≤ lim)) <|
     some ([.one (.b true)], [[.i .i64 n1, .i .i64 n2, .i .i64 n3, .i .i64 n4, .s s1, .l (l1 ++ y4)]])
    else
     if n5 == (3 : Int) then
      let y5 := w64 ((w64 (n7 - n3)) - (1 : Int))
      chk (decide (0 ≤ y5 ∧ y5 ≤ l1.length ∧ y5 = y5)) <|
      some ([.one (.b true)], [[.i .i64 n1, .i .i64 n2, .i .i64 n3, .i .i64 n4, .s s1, .l (l1.take y5.toNat)]])
     else
      let y6 := w64 (n7 - n3)
      let y7 := w64 (y6 - (1 : Int))
      let y8 := decide (y6 ≤ (l1.length : Int))
      chk ((decide (0 ≤ y7) && decide (y7 < l1.length)) || !y8) <|
      let y9 := l1.getD (y7.toNat) []
      chk ((decide (1 ≤ y9.length) && isF z3 0 y9) || !y8) <|
      if y8 && ((asI (nthD y9 0)) == n6) then
       chk (decide (0 ≤ y6 ∧ y6 ≤ l1.length)) <|
       let y10 := l1.drop y6.toNat
       chk ((flatR 2 y10) && decide (y10.length ≤ lim)) <|
       some ([.one (.b true)], [[.i .i64 n1, .i .i64 n2, .i .i64 n7, .i .i64 n6, .s s2, .l y10]])
      else
       some ([.one (.b true)], [[.i .i64 n1, .i .i64 n2, .i .i64 n7, .i .i64 n6, .s s2, .l ([] : Rw)]])
def t58 : Y58 := ta58 t45 t88
def zr58 : List DV := [.one (.b false)]
def zo58 : Rw := [[.i .i64 0, .i .i64 0, .i .i64 0, .i .i64 0, .s ⟨#[]⟩, .l []]]
def A58 : List TA := [.ptr [.i .i64, .i .i64, .i .i64, .i .i64, .s, .l], .agg [.i .i64, .i .i64, .i .i64, .i .i64, .s]]
abbrev Y90 := Int → Int → Int → Int → ByteArray → Rw → Rw → Bool → Int → Int → Int → Int → ByteArray → Rs
def ta90 (t58 : Y58) (n1 n2 n3 n4 : Int) (s1 : ByteArray) (l1 l2 : Rw) (b1 : Bool) (n5 n6 n7 n8 : Int) (s2 : ByteArray) : Rs :=
  if !b1 then
   let y1 := t58 n1 n2 n3 n4 s1 l1 n5 n6 n7 n8 s2
   chk (okR zr58 zo58 y1) <|
   let y2 := ([[.i .i64 n5, .i .i64 n6, .i .i64 n7, .i .i64 n8, .s s2]] : Rw)
   chk ((flatR 5 y2) && decide (l2.length + y2.length ≤ lim)) <|
   some ([], [[.i .i64 (asI (outC y1 0 0)), .i .i64 (asI (outC y1 0 1)), .i .i64 (asI (outC y1 0 2)), .i .i64 (asI (outC y1 0 3)), .s (asS (outC y1 0 4)), .l (asL (outC y1 0 5)), .l (l2 ++ y2), .b (b1 || (!(asB (resC y1 0 0))))]])
  else
   if !b1 then
    none
   else
    chk (b1) <|
    let y3 := ([[.i .i64 n5, .i .i64 n6, .i .i64 n7, .i .i64 n8, .s s2]] : Rw)
    chk ((flatR 5 y3) && decide (l2.length + y3.length ≤ lim)) <|
    some ([], [[.i .i64 n1, .i .i64 n2, .i .i64 n3, .i .i64 n4, .s s1, .l l1, .l (l2 ++ y3), .b true]])
def t90 : Y90 := ta90 t58
def zr90 : List DV := []
def zo90 : Rw := [[.i .i64 0, .i .i64 0, .i .i64 0, .i .i64 0, .s ⟨#[]⟩, .l [], .l [], .b false]]
def A90 : List TA := [.ptr [.i .i64, .i .i64, .i .i64, .i .i64, .s, .l, .l, .b], .agg [.i .i64, .i .i64, .i .i64, .i .i64, .s]]
abbrev Y66 := Int → Int → Int → Int → ByteArray → Rw → Int → Int → Int → Int → ByteArray → Rw → Rs
def la66o5 (t57 : Y57) (t90 : Y90) (n1 n2 n3 n4 : Int) (s1 : ByteArray) (l1 : Rw) (n5 n6 n7 n8 : Int) (s2 : ByteArray) (l2 : Rw) (b1 : Bool) (n9 : Int) (b2 b3 b4 b5 : Bool) (l3 : Rw) (n10 n11 n12 n13 n14 : Int) (s3 : ByteArray) (l4 : Rw) (n15 n16 n17 n18 : Int) (s4 : ByteArray) (l5 : Rw) (q1 : SV → Int → Bool → Int → Int → Int → Int → ByteArray → Bool → Rw → Rw → Rs) : Nat → SV → Int → SV → Int → Int → Int → Int → ByteArray → Bool → Rw → Rw → Rs
  | 0, _, _, _, _, _, _, _, _, _, _, _ => none
  | m + 1, v1, n19, v2, n20, n21, n22, n23, s5, b6, l6, l7 =>
    let y1 := decide (n19 < n10)
    if y1 then
     let y2 := l3.getD n19.toNat []
     chk (decide (0 ≤ n19) && decide (n19 < l3.length) && isRow z90 y2) <|
     let y3 := t90 n20 n21 n22 n23 s5 l6 l7 b6 (2 : Int) (asI (nthD y2 0)) (w64 ((w64 ((w64 (n17 + n9)) + n19)) + (1 : Int))) (0 : Int) (asS (nthD y2 1))
     chk (okR zr90 zo90 y3) <|
     la66o5 t57 t90 n1 n2 n3 n4 s1 l1 n5 n6 n7 n8 s2 l2 b1 n9 b2 b3 b4 b5 l3 n10 n11 n12 n13 n14 s3 l4 n15 n16 n17 n18 s4 l5 q1 m (.d (.i .i64 n19)) (w64 (n19 + (1 : Int))) (.d (.b y1)) (asI (outC y3 0 0)) (asI (outC y3 0 1)) (asI (outC y3 0 2)) (asI (outC y3 0 3)) (asS (outC y3 0 4)) (asB (outC y3 0 7)) (asL (outC y3 0 5)) (asL (outC y3 0 6))
    else
     q1 (keepV [128, 192, 832, 53254, 53255] v1) n19 y1 n20 n21 n22 n23 s5 b6 l6 l7
def la66o2 (t57 : Y57) (t90 : Y90) (n1 n2 n3 n4 : Int) (s1 : ByteArray) (l1 : Rw) (n5 n6 n7 n8 : Int) (s2 : ByteArray) (l2 : Rw) (b1 b2 b3 : Bool) (n9 n10 n11 n12 : Int) (s3 : ByteArray) (l3 : Rw) (n13 n14 n15 n16 : Int) (s4 : ByteArray) (l4 : Rw) (n17 n18 n19 n20 : Int) (s5 : ByteArray) (b4 : Bool) (l5 l6 : Rw) (q1 : Int → Bool → Rs) : Nat → Int → SV → Rs
  | 0, _, _ => none
  | m + 1, n21, v1 =>
    let y1 := (decide (n21 < (l5.length : Int))) && (decide (n21 < (l4.length : Int)))
    chk ((decide (0 ≤ n21) && decide (n21 < l5.length)) || !y1) <|
    let y2 := l5.getD (n21.toNat) []
    chk ((decide (2 ≤ y2.length) && isF z90 0 y2) || !y1) <|
    let y3 := l4.getD n21.toNat []
    chk ((decide (0 ≤ n21) && decide (n21 < l4.length) && isRow z90 y3) || !y1) <|
    let y4 := y1 && (((asI (nthD y2 0)) == (asI (nthD y3 0))) && (((asS (nthD y2 1)).toList == (asS (nthD y3 1)).toList) && true))
    if y4 then
     la66o2 t57 t90 n1 n2 n3 n4 s1 l1 n5 n6 n7 n8 s2 l2 b1 b2 b3 n9 n10 n11 n12 s3 l3 n13 n14 n15 n16 s4 l4 n17 n18 n19 n20 s5 b4 l5 l6 q1 m (w64 (n21 + (1 : Int))) (.d (.b y4))
    else
     q1 n21 y4
def ta66 (t57 : Y57) (t90 : Y90) (n1 n2 n3 n4 : Int) (s1 : ByteArray) (l1 : Rw) (n5 n6 n7 n8 : Int) (s2 : ByteArray) (l2 : Rw) : Rs :=
  let y1 := t57 n1 n2 n3 n4 s1 l1
  chk (okR zr57 zo57 y1) <|
  let k1 := fun (n9 n10 n11 n12 : Int) (s3 : ByteArray) (b1 : Bool) (l3 l4 : Rw) =>
   let k2 := fun (n13 n14 n15 n16 : Int) (s4 : ByteArray) (b2 : Bool) (l5 l6 : Rw) =>
    let y2 := (n1 != n5) || (n2 != n6)
    let y3 := !((n3 == n7) && ((n4 == n8) && ((s1.toList == s2.toList) && true)))
    la66o2 t57 t90 n1 n2 n3 n4 s1 l1 n5 n6 n7 n8 s2 l2 false y2 y3 n1 n2 n3 n4 s1 l1 n5 n6 n7 n8 s2 l2 n13 n14 n15 n16 s4 b2 l5 l6
     (fun (n17 : Int) (b3 : Bool) =>
      let k3 := fun (n18 n19 n20 n21 : Int) (s5 : ByteArray) (b4 : Bool) (l7 l8 : Rw) =>
       chk (decide (0 ≤ n17 ∧ n17 ≤ l2.length ∧ (l2.getD 0 z90).length = z90.length)) <|
       let y4 := decide (n17 < (l5.length : Int))
       let y5 := l2.drop n17.toNat
       la66o5 t57 t90 n1 n2 n3 n4 s1 l1 n5 n6 n7 n8 s2 l2 false n17 y2 y3 b3 y4 y5 (y5.length : Int) n1 n2 n3 n4 s1 l1 n5 n6 n7 n8 s2 l2
        (fun (v1 : SV) (n22 : Int) (b5 : Bool) (n23 n24 n25 n26 : Int) (s6 : ByteArray) (b6 : Bool) (l9 l10 : Rw) =>
         if b6 || (decide ((l10.length : Int) > (80 : Int))) then
          some ([.one (.l ([] : Rw)), .one (.b false)], [])
         else
          some ([.one (.l l10), .one (.b true)], [])) KK SV.undef (0 : Int) SV.undef n18 n19 n20 n21 s5 b4 l7 l8
      let y6 := decide (n17 < (l5.length : Int))
      if y6 then
       let y7 := t90 n13 n14 n15 n16 s4 l5 l6 b2 (3 : Int) (0 : Int) (w64 ((w64 (n7 + n17)) + (1 : Int))) (0 : Int) (⟨#[]⟩ : ByteArray)
       chk (okR zr90 zo90 y7) <|
       k3 (asI (outC y7 0 0)) (asI (outC y7 0 1)) (asI (outC y7 0 2)) (asI (outC y7 0 3)) (asS (outC y7 0 4)) (asB (outC y7 0 7)) (asL (outC y7 0 5)) (asL (outC y7 0 6))
      else
       k3 n13 n14 n15 n16 s4 b2 l5 l6) KK (0 : Int) SV.undef
   let y8 := !((n3 == n7) && ((n4 == n8) && ((s1.toList == s2.toList) && true)))
   if y8 then
    let y9 := t90 n9 n10 n11 n12 s3 l3 l4 b1 (4 : Int) n8 n7 (0 : Int) s2
    chk (okR zr90 zo90 y9) <|
    k2 (asI (outC y9 0 0)) (asI (outC y9 0 1)) (asI (outC y9 0 2)) (asI (outC y9 0 3)) (asS (outC y9 0 4)) (asB (outC y9 0 7)) (asL (outC y9 0 5)) (asL (outC y9 0 6))
   else
    k2 n9 n10 n11 n12 s3 b1 l3 l4
  let y10 := (n1 != n5) || (n2 != n6)
  if y10 then
   let y11 := asI (resC y1 0 0)
   let y12 := asI (resC y1 0 1)
   let y13 := asI (resC y1 0 2)
   let y14 := asI (resC y1 0 3)
   let y15 := asS (resC y1 0 4)
   let y16 := asL (resC y1 0 5)
   let y17 := t90 y11 y12 y13 y14 y15 y16 ([] : Rw) false (1 : Int) n5 (0 : Int) n6 (⟨#[]⟩ : ByteArray)
   chk (okR zr90 zo90 y17) <|
   k1 (asI (outC y17 0 0)) (asI (outC y17 0 1)) (asI (outC y17 0 2)) (asI (outC y17 0 3)) (asS (outC y17 0 4)) (asB (outC y17 0 7)) (asL (outC y17 0 5)) (asL (outC y17 0 6))
  else
   let y18 := asI (resC y1 0 0)
   let y19 := asI (resC y1 0 1)
   let y20 := asI (resC y1 0 2)
   let y21 := asI (resC y1 0 3)
   let y22 := asS (resC y1 0 4)
   let y23 := asL (resC y1 0 5)
   k1 y18 y19 y20 y21 y22 false y23 ([] : Rw)
def t66 : Y66 := ta66 t57 t90
def zr66 : List DV := [.one (.l []), .one (.b false)]
def zo66 : Rw := []
def A66 : List TA := [.agg [.i .i64, .i .i64, .i .i64, .i .i64, .s, .l], .agg [.i .i64, .i .i64, .i .i64, .i .i64, .s, .l]]
abbrev Y27 := Int → Int → Int → Int → ByteArray → Rw → Int → Int → Int → Int → ByteArray → Rw → Rs
def ta27 (t56 : Y56) (t66 : Y66) (n1 n2 n3 n4 : Int) (s1 : ByteArray) (l1 : Rw) (n5 n6 n7 n8 : Int) (s2 : ByteArray) (l2 : Rw) : Rs :=
  let y1 := t56 n1 n2 n3 n4 s1 l1
  chk (okR zr56 zo56 y1) <|
  let y2 := t56 n5 n6 n7 n8 s2 l2
  let y3 := !(asB (resC y1 0 0))
  chk ((okR zr56 zo56 y2) || !(!y3)) <|
  if y3 || (!(asB (resC y2 0 0))) then
   some ([.one (.l ([] : Rw)), .one (.b false)], [])
  else
   let y4 := t66 n1 n2 n3 n4 s1 l1 n5 n6 n7 n8 s2 l2
   chk (okR zr66 zo66 y4) <|
   some ([.one (.l (asL (resC y4 0 0))), .one (.b (asB (resC y4 1 0)))], [])
def t27 : Y27 := ta27 t56 t66
def zr27 : List DV := [.one (.l []), .one (.b false)]
def zo27 : Rw := []
def A27 : List TA := [.agg [.i .i64, .i .i64, .i .i64, .i .i64, .s, .l], .agg [.i .i64, .i .i64, .i .i64, .i .i64, .s, .l]]
abbrev Y83 := Int → Int → Int → Rs
def t83 (n1 n2 n3 : Int) : Rs :=
  some ([.one (.b ((decide (n1 ≥ n2)) && (decide (n1 ≤ n3))))], [])
def zr83 : List DV := [.one (.b false)]
def zo83 : Rw := []
def A83 : List TA := [.one (.i .i64), .one (.i .i64), .one (.i .i64)]
abbrev Y84 := Int → Int → Rs
def ta84 (t83 : Y83) (n1 n2 : Int) : Rs :=
  if n1 == (0 : Int) then
   some ([.one (.b (n2 == (0 : Int)))], [])
  else
   let y1 := t83 n1 (1 : Int) (100000 : Int)
   chk (okR zr83 zo83 y1) <|
   let y2 := t83 n2 (1 : Int) (100000 : Int)
   let y3 := asB (resC y1 0 0)
   chk ((okR zr83 zo83 y2) || !y3) <|
   some ([.one (.b (y3 && (asB (resC y2 0 0))))], [])
def t84 : Y84 := ta84 t83
def zr84 : List DV := [.one (.b false)]
def zo84 : Rw := []
def A84 : List TA := [.one (.i .i64), .one (.i .i64)]
abbrev Y51 := Int → Int → Int → Int → ByteArray → Rw → Rs
def la51o1 (t83 : Y83) (t84 : Y84) (n1 n2 n3 n4 : Int) (s1 : ByteArray) (l1 : Rw) (b1 b2 : Bool) (n5 n6 n7 n8 : Int) (s2 : ByteArray) (l2 : Rw) (q1 : Int → Int → Bool → Bool → Int → ByteArray → Rs) (q2 : Int → Int → Bool → SV → Rs) : Nat → Int → Int → SV → SV → Rs
  | 0, _, _, _, _ => none
  | m + 1, n9, n10, v1, v2 =>
    let y1 := decide (n10 < (l2.length : Int))
    if y1 then
     let y2 := l2.getD n10.toNat []
     chk (decide (0 ≤ n10) && decide (n10 < l2.length) && isRow z90 y2) <|
     let y3 := asI (nthD y2 0)
     let y4 := asS (nthD y2 1)
     let y5 := (((decide (y3 < (1 : Int))) || (decide (y3 < n9))) || (decide (y3 > n5))) || (decide ((y4.size : Int) > (1600 : Int)))
     if y5 then
      q1 n9 n10 y1 y5 y3 y4
     else
      la51o1 t83 t84 n1 n2 n3 n4 s1 l1 b1 b2 n5 n6 n7 n8 s2 l2 q1 q2 m y3 (w64 (n10 + (1 : Int))) (.d (.b y1)) (.d (.b y5))
    else
     q2 n9 n10 y1 (keepV [64] v2)
def ta51 (t83 : Y83) (t84 : Y84) (n1 n2 n3 n4 : Int) (s1 : ByteArray) (l1 : Rw) : Rs :=
  let y1 := t83 n1 (0 : Int) (100000 : Int)
  chk (okR zr83 zo83 y1) <|
  let y2 := t83 n2 (-1 : Int) (4 : Int)
  let y3 := !(asB (resC y1 0 0))
  chk ((okR zr83 zo83 y2) || !(!y3)) <|
  let y4 := y3 || (!(asB (resC y2 0 0)))
  chk ((okR zr84 zo84 (t84 n3 n4)) || !(!y4)) <|
  let y5 := (((((y4 || (!(asB (resC (t84 n3 n4) 0 0)))) || ((n3 == (0 : Int)) && (!(s1.toList == (⟨#[]⟩ : ByteArray).toList)))) || (decide ((s1.size : Int) > (20000 : Int)))) || (decide (n4 > n1))) || (decide ((l1.length : Int) > (60 : Int)))) || (decide ((w64 (n3 + (l1.length : Int))) > (100000 : Int)))
  if y5 then
   some ([.one (.b false)], [])
  else
   la51o1 t83 t84 n1 n2 n3 n4 s1 l1 false y5 n1 n2 n3 n4 s1 l1
    (fun (n5 n6 : Int) (b1 b2 : Bool) (n7 : Int) (s2 : ByteArray) =>
     some ([.one (.b false)], []))
    (fun (n8 n9 : Int) (b3 : Bool) (v1 : SV) =>
     some ([.one (.b true)], [])) KK n4 (0 : Int) SV.undef SV.undef
def t51 : Y51 := ta51 t83 t84
def zr51 : List DV := [.one (.b false)]
def zo51 : Rw := []
def A51 : List TA := [.agg [.i .i64, .i .i64, .i .i64, .i .i64, .s, .l]]
abbrev Y65 := Int → Int → Int → Int → ByteArray → Rw → Int → Int → Rs
def t65 (n1 n2 n3 n4 : Int) (s1 : ByteArray) (l1 : Rw) (n5 n6 : Int) : Rs :=
  let y1 := w64 (n5 - n3)
  let y2 := w64 (y1 - (1 : Int))
  let y3 := l1.getD y2.toNat []
  let y4 := (decide (y1 ≥ (1 : Int))) && (decide (y1 ≤ (l1.length : Int)))
  chk ((decide (0 ≤ y2) && decide (y2 < l1.length) && isRow z90 y3) || !y4) <|
  if y4 && ((asI (nthD y3 0)) == n6) then
   chk (decide (0 ≤ y1 ∧ y1 ≤ l1.length ∧ (l1.getD 0 z90).length = z90.length)) <|
   let y5 := l1.drop y1.toNat
   chk ((flatR 2 y5) && decide (([] : Rw).length + y5.length ≤ lim)) <|
   some ([.one (.l (([] : Rw) ++ y5))], [])
  else
   some ([.one (.l ([] : Rw))], [])
def zr65 : List DV := [.one (.l [])]
def zo65 : Rw := []
def A65 : List TA := [.agg [.i .i64, .i .i64, .i .i64, .i .i64, .s, .l], .one (.i .i64), .one (.i .i64)]
abbrev Y85 := Int → Int → Int → Int → ByteArray → Rs
def ta85 (t83 : Y83) (n1 n2 n3 n4 : Int) (s1 : ByteArray) : Rs :=
  if n1 == (1 : Int) then
   let y1 := t83 n2 (0 : Int) (100000 : Int)
   chk (okR zr83 zo83 y1) <|
   let y2 := t83 n4 (-1 : Int) (4 : Int)
   let y3 := asB (resC y1 0 0)
   chk ((okR zr83 zo83 y2) || !y3) <|
   some ([.one (.b (((y3 && (asB (resC y2 0 0))) && (n3 == (0 : Int))) && (s1.toList == (⟨#[]⟩ : ByteArray).toList)))], [])
  else
   if n1 == (2 : Int) then
    let y4 := t83 n2 (1 : Int) (100000 : Int)
    chk (okR zr83 zo83 y4) <|
    let y5 := t83 n3 (1 : Int) (100000 : Int)
    let y6 := asB (resC y4 0 0)
    chk ((okR zr83 zo83 y5) || !y6) <|
    some ([.one (.b (((y6 && (asB (resC y5 0 0))) && (n4 == (0 : Int))) && (decide ((s1.size : Int) ≤ (1600 : Int)))))], [])
   else
    if n1 == (3 : Int) then
     let y7 := t83 n3 (1 : Int) (100000 : Int)
     let y8 := n2 == (0 : Int)
     chk ((okR zr83 zo83 y7) || !y8) <|
     some ([.one (.b (((y8 && (asB (resC y7 0 0))) && (n4 == (0 : Int))) && (s1.toList == (⟨#[]⟩ : ByteArray).toList)))], [])
    else
     if n1 == (4 : Int) then
      let y9 := t83 n2 (1 : Int) (100000 : Int)
      chk (okR zr83 zo83 y9) <|
      let y10 := t83 n3 (1 : Int) (100000 : Int)
      let y11 := asB (resC y9 0 0)
      chk ((okR zr83 zo83 y10) || !y11) <|
      some ([.one (.b (((y11 && (asB (resC y10 0 0))) && (n4 == (0 : Int))) && (decide ((s1.size : Int) ≤ (20000 : Int)))))], [])
     else
      some ([.one (.b false)], [])
def t85 : Y85 := ta85 t83
def zr85 : List DV := [.one (.b false)]
def zo85 : Rw := []
def A85 : List TA := [.agg [.i .i64, .i .i64, .i .i64, .i .i64, .s]]
abbrev Y94 := Int → Int → Int → Int → ByteArray → Rw → Rs
def t94 (n1 n2 n3 n4 : Int) (s1 : ByteArray) (l1 : Rw) : Rs :=
  if (l1.length : Int) == (0 : Int) then
   some ([.one (.i .i64 n4)], [])
  else
   let y1 := w64 ((l1.length : Int) - (1 : Int))
   let y2 := l1.getD y1.toNat []
   chk (decide (0 ≤ y1) && decide (y1 < l1.length) && isRow z90 y2) <|
   some ([.one (.i .i64 (asI (nthD y2 0)))], [])
def zr94 : List DV := [.one (.i .i64 0)]
def zo94 : Rw := []
def A94 : List TA := [.agg [.i .i64, .i .i64, .i .i64, .i .i64, .s, .l]]
abbrev Y86 := Int → Int → Int → Int → ByteArray → Rw → Int → Int → Int → Int → ByteArray → Rs
def ta86 (t94 : Y94) (n1 n2 n3 n4 : Int) (s1 : ByteArray) (l1 : Rw) (n5 n6 n7 n8 : Int) (s2 : ByteArray) : Rs :=
  if n5 == (1 : Int) then
   some ([.one (.b ((decide (n6 > n1)) || ((n6 == n1) && ((n2 == (-1 : Int)) || (n8 == n2)))))], [])
  else
   if n5 == (2 : Int) then
    let y1 := t94 n1 n2 n3 n4 s1 l1
    let y2 := w64 (n3 + (l1.length : Int))
    let y3 := (n7 == (w64 (y2 + (1 : Int)))) && (decide ((l1.length : Int) < (60 : Int)))
    chk ((okR zr94 zo94 y1) || !y3) <|
    some ([.one (.b ((y3 && (decide (n6 ≥ (asI (resC y1 0 0))))) && (decide (n6 ≤ n1))))], [])
   else
    if n5 == (3 : Int) then
     let y4 := w64 (n3 + (l1.length : Int))
     some ([.one (.b ((decide (n7 > n3)) && (decide (n7 ≤ y4))))], [])
    else
     if n5 == (4 : Int) then
      some ([.one (.b ((decide (n7 > n3)) && (decide (n6 ≤ n1))))], [])
     else
      some ([.one (.b false)], [])
def t86 : Y86 := ta86 t94
def zr86 : List DV := [.one (.b false)]
def zo86 : Rw := []
def A86 : List TA := [.agg [.i .i64, .i .i64, .i .i64, .i .i64, .s, .l], .agg [.i .i64, .i .i64, .i .i64, .i .i64, .s]]
abbrev Y52 := Int → Int → Int → Int → ByteArray → Rw → Int → Int → Int → Int → ByteArray → Rs
def ta52 (t65 : Y65) (t85 : Y85) (t86 : Y86) (n1 n2 n3 n4 : Int) (s1 : ByteArray) (l1 : Rw) (n5 n6 n7 n8 : Int) (s2 : ByteArray) : Rs :=
  let y1 := t85 n5 n6 n7 n8 s2
  chk (okR zr85 zo85 y1) <|
  let y2 := t86 n1 n2 n3 n4 s1 l1 n5 n6 n7 n8 s2
  let y3 := !(asB (resC y1 0 0))
  chk ((okR zr86 zo86 y2) || !(!y3)) <|
  if y3 || (!(asB (resC y2 0 0))) then
   some ([.agg [.i .i64 n1, .i .i64 n2, .i .i64 n3, .i .i64 n4, .s s1, .l l1], .one (.b false)], [])
  else
   if n5 == (1 : Int) then
    some ([.agg [.i .i64 n6, .i .i64 n8, .i .i64 n3, .i .i64 n4, .s s1, .l l1], .one (.b true)], [])
   else
    if n5 == (2 : Int) then
     let y4 := ([[.i .i64 n6, .s s2]] : Rw)
     chk ((flatR 2 y4) && decide (l1.length + y4.length ≤ lim)) <|
     some ([.agg [.i .i64 n1, .i .i64 n2, .i .i64 n3, .i .i64 n4, .s s1, .l (l1 ++ y4)], .one (.b true)], [])
    else
     if n5 == (3 : Int) then
      let y5 := w64 ((w64 (n7 - n3)) - (1 : Int))
      chk (decide (0 ≤ y5 ∧ y5 ≤ l1.length)) <|
      some ([.agg [.i .i64 n1, .i .i64 n2, .i .i64 n3, .i .i64 n4, .s s1, .l (l1.take y5.toNat)], .one (.b true)], [])
     else
      let y6 := t65 n1 n2 n3 n4 s1 l1 n7 n6
      chk (okR zr65 zo65 y6) <|
      some ([.agg [.i .i64 n1, .i .i64 n2, .i .i64 n7, .i .i64 n6, .s s2, .l (asL (resC y6 0 0))], .one (.b true)], [])
def t52 : Y52 := ta52 t65 t85 t86
def zr52 : List DV := [.agg [.i .i64 0, .i .i64 0, .i .i64 0, .i .i64 0, .s ⟨#[]⟩, .l []], .one (.b false)]
def zo52 : Rw := []
def A52 : List TA := [.agg [.i .i64, .i .i64, .i .i64, .i .i64, .s, .l], .agg [.i .i64, .i .i64, .i .i64, .i .i64, .s]]
abbrev Y26 := Int → Int → Int → Int → ByteArray → Rw → Int → Int → Int → Int → ByteArray → Rw → Rs
def la26o9 (t51 : Y51) (t52 : Y52) (t53 : Y53) (t65 : Y65) (n1 n2 n3 n4 : Int) (s1 : ByteArray) (l1 : Rw) (n5 n6 n7 n8 : Int) (s2 : ByteArray) (l2 : Rw) (b1 : Bool) (n9 n10 : Int) (b2 b3 b4 b5 b6 b7 b8 : Bool) (n11 n12 n13 n14 : Int) (s3 : ByteArray) (l3 : Rw) (n15 n16 n17 n18 : Int) (s4 : ByteArray) (l4 l5 l6 l7 : Rw) (q1 : Int → Bool → Bool → Bool → Int → Int → Int → Int → ByteArray → Int → Int → Int → Int → ByteArray → Rw → Rs) (q2 : Int → SV → Bool → SV → Int → Int → Int → Int → ByteArray → Rw → Rs) : Nat → Int → SV → SV → SV → Int → Int → Int → Int → ByteArray → Rw → Rs
  | 0, _, _, _, _, _, _, _, _, _, _ => none
  | m + 1, n19, v1, v2, v3, n20, n21, n22, n23, s5, l8 =>
    let y1 := decide (n19 < (l6.length : Int))
    if y1 then
     chk (decide (0 ≤ n19) && decide (n19 < l6.length)) <|
     let y2 := l6.getD (n19.toNat) []
     chk (decide (5 ≤ y2.length) && isF z38 0 y2) <|
     let y3 := t52 n20 n21 n22 n23 s5 l8 (asI (nthD y2 0)) (asI (nthD y2 1)) (asI (nthD y2 2)) (asI (nthD y2 3)) (asS (nthD y2 4))
     chk (okR zr52 zo52 y3) <|
     let y4 := asB (resC y3 1 0)
     let y5 := !y4
     if y5 then
      let y6 := asI (resC y3 0 0)
      let y7 := asI (resC y3 0 1)
      let y8 := asI (resC y3 0 2)
      let y9 := asI (resC y3 0 3)
      let y10 := asS (resC y3 0 4)
      let y11 := asL (resC y3 0 5)
      q1 n19 y4 y1 y5 n20 n21 n22 n23 s5 y6 y7 y8 y9 y10 y11
     else
      let y12 := asI (resC y3 0 0)
      let y13 := asI (resC y3 0 1)
      let y14 := asI (resC y3 0 2)
      let y15 := asI (resC y3 0 3)
      let y16 := asS (resC y3 0 4)
      let y17 := asL (resC y3 0 5)
      la26o9 t51 t52 t53 t65 n1 n2 n3 n4 s1 l1 n5 n6 n7 n8 s2 l2 b1 n9 n10 b2 b3 b4 b5 b6 b7 b8 n11 n12 n13 n14 s3 l3 n15 n16 n17 n18 s4 l4 l5 l6 l7 q1 q2 m (w64 (n19 + (1 : Int))) (.d (.b y4)) (.d (.b y1)) (.d (.b y5)) y12 y13 y14 y15 y16 y17
    else
     q2 n19 (keepV [128, 192, 704, 960, 1600, 4672, 45062] v1) y1 (keepV [128, 192, 704, 960, 1600, 4672, 45062] v3) n20 n21 n22 n23 s5 l8
def la26o100009 (t51 : Y51) (t52 : Y52) (t53 : Y53) (t65 : Y65) (n1 n2 n3 n4 : Int) (s1 : ByteArray) (l1 : Rw) (n5 n6 n7 n8 : Int) (s2 : ByteArray) (l2 : Rw) (b1 : Bool) (l3 : Rw) (n9 n10 : Int) (b2 b3 b4 b5 b6 b7 b8 : Bool) (n11 n12 n13 n14 : Int) (s3 : ByteArray) (l4 : Rw) (n15 n16 n17 n18 : Int) (s4 : ByteArray) (l5 l6 l7 : Rw) (q1 : Int → Bool → Bool → Bool → Int → Int → Int → Int → ByteArray → Int → Int → Int → Int → ByteArray → Rw → Rs) (q2 : Int → SV → Bool → SV → Int → Int → Int → Int → ByteArray → Rw → Rs) : Nat → Int → SV → SV → SV → Int → Int → Int → Int → ByteArray → Rw → Rs
  | 0, _, _, _, _, _, _, _, _, _, _ => none
  | m + 1, n19, v1, v2, v3, n20, n21, n22, n23, s5, l8 =>
    let y1 := decide (n19 < (l7.length : Int))
    if y1 then
     chk (decide (0 ≤ n19) && decide (n19 < l7.length)) <|
     let y2 := l7.getD (n19.toNat) []
     chk (decide (5 ≤ y2.length) && isF z38 0 y2) <|
     let y3 := t52 n20 n21 n22 n23 s5 l8 (asI (nthD y2 0)) (asI (nthD y2 1)) (asI (nthD y2 2)) (asI (nthD y2 3)) (asS (nthD y2 4))
     chk (okR zr52 zo52 y3) <|
     let y4 := asB (resC y3 1 0)
     let y5 := !y4
     if y5 then
      let y6 := asI (resC y3 0 0)
      let y7 := asI (resC y3 0 1)
      let y8 := asI (resC y3 0 2)
      let y9 := asI (resC y3 0 3)
      let y10 := asS (resC y3 0 4)
      let y11 := asL (resC y3 0 5)
      q1 n19 y4 y1 y5 n20 n21 n22 n23 s5 y6 y7 y8 y9 y10 y11
     else
      let y12 := asI (resC y3 0 0)
      let y13 := asI (resC y3 0 1)
      let y14 := asI (resC y3 0 2)
      let y15 := asI (resC y3 0 3)
      let y16 := asS (resC y3 0 4)
      let y17 := asL (resC y3 0 5)
      la26o100009 t51 t52 t53 t65 n1 n2 n3 n4 s1 l1 n5 n6 n7 n8 s2 l2 b1 l3 n9 n10 b2 b3 b4 b5 b6 b7 b8 n11 n12 n13 n14 s3 l4 n15 n16 n17 n18 s4 l5 l6 l7 q1 q2 m (w64 (n19 + (1 : Int))) (.d (.b y4)) (.d (.b y1)) (.d (.b y5)) y12 y13 y14 y15 y16 y17
    else
     q2 n19 (keepV [128, 192, 704, 960, 1600, 45062] v1) y1 (keepV [128, 192, 704, 960, 1600, 45062] v3) n20 n21 n22 n23 s5 l8
def la26o6 (t51 : Y51) (t52 : Y52) (t53 : Y53) (t65 : Y65) (n1 n2 n3 n4 : Int) (s1 : ByteArray) (l1 : Rw) (n5 n6 n7 n8 : Int) (s2 : ByteArray) (l2 : Rw) (b1 : Bool) (n9 : Int) (b2 b3 b4 b5 b6 : Bool) (n10 n11 n12 n13 : Int) (s3 : ByteArray) (l3 : Rw) (n14 n15 n16 n17 : Int) (s4 : ByteArray) (l4 l5 l6 : Rw) (q1 : Int → Bool → Rw → Rs) : Nat → Int → SV → Rw → Rs
  | 0, _, _, _ => none
  | m + 1, n18, v1, l7 =>
    let y1 := decide (n18 < (l4.length : Int))
    if y1 then
     let y2 := l4.getD n18.toNat []
     chk (decide (0 ≤ n18) && decide (n18 < l4.length) && isRow z90 y2) <|
     let y3 := l4.getD n18.toNat []
     chk (decide (0 ≤ n18) && decide (n18 < l4.length) && isRow z90 y3) <|
     let y4 := ([[.i .i64 (2 : Int), .i .i64 (asI (nthD y2 0)), .i .i64 (w64 ((w64 (n16 + (1 : Int))) + n18)), .i .i64 (0 : Int), .s (asS (nthD y3 1))]] : Rw)
     chk ((flatR 5 y4) && decide (l7.length + y4.length ≤ lim)) <|
     la26o6 t51 t52 t53 t65 n1 n2 n3 n4 s1 l1 n5 n6 n7 n8 s2 l2 b1 n9 b2 b3 b4 b5 b6 n10 n11 n12 n13 s3 l3 n14 n15 n16 n17 s4 l4 l5 l6 q1 m (w64 (n18 + (1 : Int))) (.d (.b y1)) (l7 ++ y4)
    else
     q1 n18 y1 l7
def la26o100006 (t51 : Y51) (t52 : Y52) (t53 : Y53) (t65 : Y65) (n1 n2 n3 n4 : Int) (s1 : ByteArray) (l1 : Rw) (n5 n6 n7 n8 : Int) (s2 : ByteArray) (l2 : Rw) (b1 : Bool) (l3 : Rw) (n9 : Int) (b2 b3 b4 b5 b6 : Bool) (n10 n11 n12 n13 : Int) (s3 : ByteArray) (l4 : Rw) (n14 n15 n16 n17 : Int) (s4 : ByteArray) (l5 l6 : Rw) (q1 : Int → Bool → Rw → Rs) : Nat → Int → SV → Rw → Rs
  | 0, _, _, _ => none
  | m + 1, n18, v1, l7 =>
    let y1 := decide (n18 < (l5.length : Int))
    if y1 then
     let y2 := l5.getD n18.toNat []
     chk (decide (0 ≤ n18) && decide (n18 < l5.length) && isRow z90 y2) <|
     let y3 := l5.getD n18.toNat []
     chk (decide (0 ≤ n18) && decide (n18 < l5.length) && isRow z90 y3) <|
     let y4 := ([[.i .i64 (2 : Int), .i .i64 (asI (nthD y2 0)), .i .i64 (w64 ((w64 (n16 + (1 : Int))) + n18)), .i .i64 (0 : Int), .s (asS (nthD y3 1))]] : Rw)
     chk ((flatR 5 y4) && decide (l7.length + y4.length ≤ lim)) <|
     la26o100006 t51 t52 t53 t65 n1 n2 n3 n4 s1 l1 n5 n6 n7 n8 s2 l2 b1 l3 n9 b2 b3 b4 b5 b6 n10 n11 n12 n13 s3 l4 n14 n15 n16 n17 s4 l5 l6 q1 m (w64 (n18 + (1 : Int))) (.d (.b y1)) (l7 ++ y4)
    else
     q1 n18 y1 l7
def la26o3 (t51 : Y51) (t52 : Y52) (t53 : Y53) (t65 : Y65) (n1 n2 n3 n4 : Int) (s1 : ByteArray) (l1 : Rw) (n5 n6 n7 n8 : Int) (s2 : ByteArray) (l2 : Rw) (b1 b2 b3 b4 : Bool) (n9 n10 n11 n12 : Int) (s3 : ByteArray) (l3 : Rw) (n13 n14 n15 n16 : Int) (s4 : ByteArray) (l4 l5 l6 l7 l8 : Rw) (q1 : Int → Bool → Rs) : Nat → Int → SV → Rs
  | 0, _, _ => none
  | m + 1, n17, v1 =>
    let y1 := (decide (n17 < (l8.length : Int))) && (decide (n17 < (l4.length : Int)))
    chk ((decide (0 ≤ n17) && decide (n17 < l8.length)) || !y1) <|
    let y2 := l8.getD (n17.toNat) []
    chk ((decide (2 ≤ y2.length) && isF z90 0 y2) || !y1) <|
    let y3 := l4.getD n17.toNat []
    chk ((decide (0 ≤ n17) && decide (n17 < l4.length) && isRow z90 y3) || !y1) <|
    let y4 := y1 && (((asI (nthD y2 0)) == (asI (nthD y3 0))) && (((asS (nthD y2 1)).toList == (asS (nthD y3 1)).toList) && true))
    if y4 then
     la26o3 t51 t52 t53 t65 n1 n2 n3 n4 s1 l1 n5 n6 n7 n8 s2 l2 b1 b2 b3 b4 n9 n10 n11 n12 s3 l3 n13 n14 n15 n16 s4 l4 l5 l6 l7 l8 q1 m (w64 (n17 + (1 : Int))) (.d (.b y4))
    else
     q1 n17 y4
def la26o100003 (t51 : Y51) (t52 : Y52) (t53 : Y53) (t65 : Y65) (n1 n2 n3 n4 : Int) (s1 : ByteArray) (l1 : Rw) (n5 n6 n7 n8 : Int) (s2 : ByteArray) (l2 : Rw) (b1 : Bool) (l3 : Rw) (b2 b3 b4 : Bool) (n9 n10 n11 n12 : Int) (s3 : ByteArray) (l4 : Rw) (n13 n14 n15 n16 : Int) (s4 : ByteArray) (l5 l6 l7 : Rw) (q1 : Int → Bool → Rs) : Nat → Int → SV → Rs
  | 0, _, _ => none
  | m + 1, n17, v1 =>
    let y1 := l3.getD n17.toNat []
    let y2 := (decide (n17 < (l3.length : Int))) && (decide (n17 < (l5.length : Int)))
    chk ((decide (0 ≤ n17) && decide (n17 < l3.length) && isRow z90 y1) || !y2) <|
    let y3 := l5.getD n17.toNat []
    chk ((decide (0 ≤ n17) && decide (n17 < l5.length) && isRow z90 y3) || !y2) <|
    let y4 := y2 && (((asI (nthD y1 0)) == (asI (nthD y3 0))) && (((asS (nthD y1 1)).toList == (asS (nthD y3 1)).toList) && true))
    if y4 then
     la26o100003 t51 t52 t53 t65 n1 n2 n3 n4 s1 l1 n5 n6 n7 n8 s2 l2 b1 l3 b2 b3 b4 n9 n10 n11 n12 s3 l4 n13 n14 n15 n16 s4 l5 l6 l7 q1 m (w64 (n17 + (1 : Int))) (.d (.b y4))
    else
     q1 n17 y4
def ta26 (t51 : Y51) (t52 : Y52) (t53 : Y53) (t65 : Y65) (n1 n2 n3 n4 : Int) (s1 : ByteArray) (l1 : Rw) (n5 n6 n7 n8 : Int) (s2 : ByteArray) (l2 : Rw) : Rs :=
  let y1 := t51 n1 n2 n3 n4 s1 l1
  chk (okR zr51 zo51 y1) <|
  let y2 := t51 n5 n6 n7 n8 s2 l2
  let y3 := !(asB (resC y1 0 0))
  chk ((okR zr51 zo51 y2) || !(!y3)) <|
  let y4 := y3 || (!(asB (resC y2 0 0)))
  if y4 then
   some ([.one (.l ([] : Rw)), .one (.b false)], [])
  else
   let k1 := fun (l3 : Rw) =>
    let y5 := !((n3 == n7) && ((n4 == n8) && ((s1.toList == s2.toList) && true)))
    if y5 then
     let y6 := ([[.i .i64 (4 : Int), .i .i64 n8, .i .i64 n7, .i .i64 (0 : Int), .s s2]] : Rw)
     chk ((flatR 5 y6) && decide (l3.length + y6.length ≤ lim)) <|
     let y7 := t65 n1 n2 n3 n4 s1 l1 n7 n8
     chk (okR zr65 zo65 y7) <|
     let y8 := (n1 != n5) || (n2 != n6)
     let y9 := l3 ++ y6
     let y10 := asL (resC y7 0 0)
     la26o3 t51 t52 t53 t65 n1 n2 n3 n4 s1 l1 n5 n6 n7 n8 s2 l2 false y4 y8 y5 n1 n2 n3 n4 s1 l1 n5 n6 n7 n8 s2 l2 ([] : Rw) y9 y6 y10
      (fun (n9 : Int) (b1 : Bool) =>
       let k2 := fun (l4 : Rw) =>
        let y11 := decide (n9 < (y10.length : Int))
        la26o6 t51 t52 t53 t65 n1 n2 n3 n4 s1 l1 n5 n6 n7 n8 s2 l2 false n9 y4 y8 y5 b1 y11 n1 n2 n3 n4 s1 l1 n5 n6 n7 n8 s2 l2 ([] : Rw) y10
         (fun (n10 : Int) (b2 : Bool) (l5 : Rw) =>
          let y12 := decide ((l5.length : Int) > (80 : Int))
          if y12 then
           some ([.one (.l ([] : Rw)), .one (.b false)], [])
          else
           let y13 := t53 n1 n2 n3 n4 s1 l1
           chk (okR zr53 zo53 y13) <|
           la26o9 t51 t52 t53 t65 n1 n2 n3 n4 s1 l1 n5 n6 n7 n8 s2 l2 false n9 n10 y4 y8 y5 b1 y11 b2 y12 n1 n2 n3 n4 s1 l1 n5 n6 n7 n8 s2 l2 ([] : Rw) l5 y10
            (fun (n11 : Int) (b3 b4 b5 : Bool) (n12 n13 n14 n15 : Int) (s3 : ByteArray) (n16 n17 n18 n19 : Int) (s4 : ByteArray) (l6 : Rw) =>
             some ([.one (.l ([] : Rw)), .one (.b false)], []))
            (fun (n20 : Int) (v1 : SV) (b6 : Bool) (v2 : SV) (n21 n22 n23 n24 : Int) (s5 : ByteArray) (l7 : Rw) =>
             some ([.one (.l l5), .one (.b true)], [])) KK (0 : Int) SV.undef SV.undef SV.undef (asI (resC y13 0 0)) (asI (resC y13 0 1)) (asI (resC y13 0 2)) (asI (resC y13 0 3)) (asS (resC y13 0 4)) (asL (resC y13 0 5))) KK n9 SV.undef l4
       let y14 := decide (n9 < (y10.length : Int))
       if y14 then
        let y15 := ([[.i .i64 (3 : Int), .i .i64 (0 : Int), .i .i64 (w64 ((w64 (n7 + n9)) + (1 : Int))), .i .i64 (0 : Int), .s (⟨#[]⟩ : ByteArray)]] : Rw)
        chk ((flatR 5 y15) && decide (y9.length + y15.length ≤ lim)) <|
        k2 (y9 ++ y15)
       else
        k2 y9) KK (0 : Int) SV.undef
    else
     let y16 := (n1 != n5) || (n2 != n6)
     la26o100003 t51 t52 t53 t65 n1 n2 n3 n4 s1 l1 n5 n6 n7 n8 s2 l2 false l1 y4 y16 y5 n1 n2 n3 n4 s1 l1 n5 n6 n7 n8 s2 l2 ([] : Rw) l3
      (fun (n25 : Int) (b7 : Bool) =>
       let k3 := fun (l8 : Rw) =>
        let y17 := decide (n25 < (l1.length : Int))
        la26o100006 t51 t52 t53 t65 n1 n2 n3 n4 s1 l1 n5 n6 n7 n8 s2 l2 false l1 n25 y4 y16 y5 b7 y17 n1 n2 n3 n4 s1 l1 n5 n6 n7 n8 s2 l2 ([] : Rw)
         (fun (n26 : Int) (b8 : Bool) (l9 : Rw) =>
          let y18 := decide ((l9.length : Int) > (80 : Int))
          if y18 then
           some ([.one (.l ([] : Rw)), .one (.b false)], [])
          else
           let y19 := t53 n1 n2 n3 n4 s1 l1
           chk (okR zr53 zo53 y19) <|
           la26o100009 t51 t52 t53 t65 n1 n2 n3 n4 s1 l1 n5 n6 n7 n8 s2 l2 false l1 n25 n26 y4 y16 y5 b7 y17 b8 y18 n1 n2 n3 n4 s1 l1 n5 n6 n7 n8 s2 l2 ([] : Rw) l9
            (fun (n27 : Int) (b9 b10 b11 : Bool) (n28 n29 n30 n31 : Int) (s6 : ByteArray) (n32 n33 n34 n35 : Int) (s7 : ByteArray) (l10 : Rw) =>
             some ([.one (.l ([] : Rw)), .one (.b false)], []))
            (fun (n36 : Int) (v3 : SV) (b12 : Bool) (v4 : SV) (n37 n38 n39 n40 : Int) (s8 : ByteArray) (l11 : Rw) =>
             some ([.one (.l l9), .one (.b true)], [])) KK (0 : Int) SV.undef SV.undef SV.undef (asI (resC y19 0 0)) (asI (resC y19 0 1)) (asI (resC y19 0 2)) (asI (resC y19 0 3)) (asS (resC y19 0 4)) (asL (resC y19 0 5))) KK n25 SV.undef l8
       let y20 := decide (n25 < (l1.length : Int))
       if y20 then
        let y21 := ([[.i .i64 (3 : Int), .i .i64 (0 : Int), .i .i64 (w64 ((w64 (n7 + n25)) + (1 : Int))), .i .i64 (0 : Int), .s (⟨#[]⟩ : ByteArray)]] : Rw)
        chk ((flatR 5 y21) && decide (l3.length + y21.length ≤ lim)) <|
        k3 (l3 ++ y21)
       else
        k3 l3) KK (0 : Int) SV.undef
   let y22 := (n1 != n5) || (n2 != n6)
   if y22 then
    let y23 := ([[.i .i64 (1 : Int), .i .i64 n5, .i .i64 (0 : Int), .i .i64 n6, .s (⟨#[]⟩ : ByteArray)]] : Rw)
    chk ((flatR 5 y23) && decide (([] : Rw).length + y23.length ≤ lim)) <|
    k1 (([] : Rw) ++ y23)
   else
    k1 ([] : Rw)
def t26 : Y26 := ta26 t51 t52 t53 t65
def zr26 : List DV := [.one (.l []), .one (.b false)]
def zo26 : Rw := []
def A26 : List TA := [.agg [.i .i64, .i .i64, .i .i64, .i .i64, .s, .l], .agg [.i .i64, .i .i64, .i .i64, .i .i64, .s, .l]]
abbrev Y17 := Int → Int → Int → Int → ByteArray → Rw → Int → Int → Int → Int → ByteArray → Rs
def ta17 (t56 : Y56) (t57 : Y57) (t58 : Y58) (n1 n2 n3 n4 : Int) (s1 : ByteArray) (l1 : Rw) (n5 n6 n7 n8 : Int) (s2 : ByteArray) : Rs :=
  let y1 := t56 n1 n2 n3 n4 s1 l1
  chk (okR zr56 zo56 y1) <|
  if !(asB (resC y1 0 0)) then
   some ([.agg [.i .i64 (0 : Int), .i .i64 (0 : Int), .i .i64 (0 : Int), .i .i64 (0 : Int), .s (⟨#[]⟩ : ByteArray), .l ([] : Rw)], .one (.b false)], [])
  else
   let y2 := t57 n1 n2 n3 n4 s1 l1
   chk (okR zr57 zo57 y2) <|
   let y3 := t58 (asI (resC y2 0 0)) (asI (resC y2 0 1)) (asI (resC y2 0 2)) (asI (resC y2 0 3)) (asS (resC y2 0 4)) (asL (resC y2 0 5)) n5 n6 n7 n8 s2
   chk (okR zr58 zo58 y3) <|
   some ([.agg [.i .i64 (asI (outC y3 0 0)), .i .i64 (asI (outC y3 0 1)), .i .i64 (asI (outC y3 0 2)), .i .i64 (asI (outC y3 0 3)), .s (asS (outC y3 0 4)), .l (asL (outC y3 0 5))], .one (.b (asB (resC y3 0 0)))], [])
def t17 : Y17 := ta17 t56 t57 t58
def zr17 : List DV := [.agg [.i .i64 0, .i .i64 0, .i .i64 0, .i .i64 0, .s ⟨#[]⟩, .l []], .one (.b false)]
def zo17 : Rw := []
def A17 : List TA := [.agg [.i .i64, .i .i64, .i .i64, .i .i64, .s, .l], .agg [.i .i64, .i .i64, .i .i64, .i .i64, .s]]
abbrev Y77 := Rw → Rw → Rs
def l77o1 (l1 l2 : Rw) (b1 b2 : Bool) (q1 : Int → Bool → Bool → Rs) (q2 : Int → Bool → SV → Rs) : Nat → Int → SV → SV → Rs
  | 0, _, _, _ => none
  | m + 1, n1, v1, v2 =>
    let y1 := decide (n1 < (l1.length : Int))
    if y1 then
     let y2 := l1.getD n1.toNat []
     chk (decide (0 ≤ n1) && decide (n1 < l1.length) && isRow z90 y2) <|
     let y3 := l2.getD n1.toNat []
     chk (decide (0 ≤ n1) && decide (n1 < l2.length) && isRow z90 y3) <|
     let y4 := !(((asI (nthD y2 0)) == (asI (nthD y3 0))) && (((asS (nthD y2 1)).toList == (asS (nthD y3 1)).toList) && true))
     if y4 then
      q1 n1 y1 y4
     else
      l77o1 l1 l2 b1 b2 q1 q2 m (w64 (n1 + (1 : Int))) (.d (.b y1)) (.d (.b y4))
    else
     q2 n1 y1 (keepV [] v2)
def t77 (l1 l2 : Rw) : Rs :=
  let y1 := (l1.length : Int) != (l2.length : Int)
  if y1 then
   some ([.one (.b false)], [])
  else
   l77o1 l1 l2 false y1
    (fun (n1 : Int) (b1 b2 : Bool) =>
     some ([.one (.b false)], []))
    (fun (n2 : Int) (b3 : Bool) (v1 : SV) =>
     some ([.one (.b true)], [])) KK (0 : Int) SV.undef SV.undef
def zr77 : List DV := [.one (.b false)]
def zo77 : Rw := []
def A77 : List TA := [.one (.l), .one (.l)]
abbrev Y46 := Int → Int → Int → Int → ByteArray → Rw → Int → Int → Int → Int → ByteArray → Rw → Rs
def ta46 (t77 : Y77) (n1 n2 n3 n4 : Int) (s1 : ByteArray) (l1 : Rw) (n5 n6 n7 n8 : Int) (s2 : ByteArray) (l2 : Rw) : Rs :=
  let y1 := ((n1 == n5) && (n2 == n6)) && ((n3 == n7) && ((n4 == n8) && ((s1.toList == s2.toList) && true)))
  chk ((okR zr77 zo77 (t77 l1 l2)) || !y1) <|
  some ([.one (.b (y1 && (asB (resC (t77 l1 l2) 0 0))))], [])
def t46 : Y46 := ta46 t77
def zr46 : List DV := [.one (.b false)]
def zo46 : Rw := []
def A46 : List TA := [.agg [.i .i64, .i .i64, .i .i64, .i .i64, .s, .l], .agg [.i .i64, .i .i64, .i .i64, .i .i64, .s, .l]]
abbrev Y10 := Rw → Rs
def la10o10000003 (t17 : Y17) (t26 : Y26) (t27 : Y27) (t43 : Y43) (t44 : Y44) (t45 : Y45) (t46 : Y46) (q1 : Rw → Bool → Bool → Int → Bool → Bool → Bool → Bool → Bool → Bool → Int → Int → Int → Int → ByteArray → Int → Int → Int → Int → ByteArray → Int → Int → Int → Int → ByteArray → Int → Int → Int → Int → ByteArray → Rw → Rw → Rw → Rw → Rw → Rs) (q2 : Rw → Bool → Bool → Bool → Int → Bool → Bool → Bool → Bool → Int → Int → Int → Int → ByteArray → Int → Int → Int → Int → ByteArray → Int → Int → Int → Int → ByteArray → Rw → Rw → Rw → Rw → Rs) (q3 : Rw → Bool → Bool → Int → Bool → Bool → Bool → Bool → Bool → Bool → Int → Int → Int → Int → ByteArray → Int → Int → Int → Int → ByteArray → Int → Int → Int → Int → ByteArray → Int → Int → Int → Int → ByteArray → Rw → Rw → Rw → Rw → Rw → Rw → Rs) (q4 : Rw → Bool → Bool → Bool → Int → Bool → Bool → Bool → Bool → Bool → Bool → Int → Int → Int → Int → ByteArray → Int → Int → Int → Int → ByteArray → Int → Int → Int → Int → ByteArray → Rw → Rw → Rw → Rw → Rw → Rs) : Nat → Rw → Bool → Bool → Bool → Int → Bool → Bool → Bool → Bool → Bool → Bool → Int → Int → Int → Int → ByteArray → Int → Int → Int → Int → ByteArray → Int → Int → Int → Int → ByteArray → Rw → Rw → Rw → Rw → Rw → Rs
  | 0, _, _, _, _, _, _, _, _, _, _, _, _, _, _, _, _, _, _, _, _, _, _, _, _, _, _, _, _, _, _, _ => none
  | m + 1, l1, b1, b2, b3, n1, b4, b5, b6, b7, b8, b9, n2, n3, n4, n5, s1, n6, n7, n8, n9, s2, n10, n11, n12, n13, s3, l2, l3, l4, l5, l6 =>
    let y1 := decide (n1 < (l2.length : Int))
    if y1 then
     chk (decide (0 ≤ n1) && decide (n1 < l2.length)) <|
     let y2 := l2.getD (n1.toNat) []
     chk (decide (5 ≤ y2.length) && isF z38 0 y2) <|
     let y3 := t17 n10 n11 n12 n13 s3 l6 (asI (nthD y2 0)) (asI (nthD y2 1)) (asI (nthD y2 2)) (asI (nthD y2 3)) (asS (nthD y2 4))
     chk (okR zr17 zo17 y3) <|
     let y4 := asB (resC y3 1 0)
     let y5 := !y4
     chk ((decide (0 ≤ n1) && decide (n1 < l2.length)) || !(!y5)) <|
     let y6 := l2.getD (n1.toNat) []
     chk ((decide (5 ≤ y6.length) && isF z38 0 y6) || !(!y5)) <|
     let y7 := t45 (asI (nthD y6 0)) (asI (nthD y6 1)) (asI (nthD y6 2)) (asI (nthD y6 3)) (asS (nthD y6 4))
     chk ((okR zr45 zo45 y7) || !(!y5)) <|
     let y8 := y5 || (!(asB (resC y7 0 0)))
     if y8 then
      let y9 := asI (resC y3 0 0)
      let y10 := asI (resC y3 0 1)
      let y11 := asI (resC y3 0 2)
      let y12 := asI (resC y3 0 3)
      let y13 := asS (resC y3 0 4)
      let y14 := asL (resC y3 0 5)
      q3 l1 b2 b3 n1 y4 b5 b6 b7 y1 y8 n2 n3 n4 n5 s1 n6 n7 n8 n9 s2 n10 n11 n12 n13 s3 y9 y10 y11 y12 y13 l2 l3 l4 l5 l6 y14
     else
      let y15 := asI (resC y3 0 0)
      let y16 := asI (resC y3 0 1)
      let y17 := asI (resC y3 0 2)
      let y18 := asI (resC y3 0 3)
      let y19 := asS (resC y3 0 4)
      let y20 := asL (resC y3 0 5)
      la10o10000003 t17 t26 t27 t43 t44 t45 t46 q1 q2 q3 q4 m l1 b1 b2 b3 (w64 (n1 + (1 : Int))) y4 b5 b6 b7 y1 y8 n2 n3 n4 n5 s1 n6 n7 n8 n9 s2 y15 y16 y17 y18 y19 l2 l3 l4 l5 y20
    else
     q4 l1 b1 b2 b3 n1 b4 b5 b6 b7 y1 b9 n2 n3 n4 n5 s1 n6 n7 n8 n9 s2 n10 n11 n12 n13 s3 l2 l3 l4 l5 l6
def la10o3 (t17 : Y17) (t26 : Y26) (t27 : Y27) (t43 : Y43) (t44 : Y44) (t45 : Y45) (t46 : Y46) (q1 : Rw → Bool → Bool → Int → Bool → Bool → Bool → Bool → Bool → Bool → Int → Int → Int → Int → ByteArray → Int → Int → Int → Int → ByteArray → Int → Int → Int → Int → ByteArray → Int → Int → Int → Int → ByteArray → Rw → Rw → Rw → Rw → Rw → Rs) (q2 : Rw → Bool → Bool → Bool → Int → Bool → Bool → Bool → Bool → Int → Int → Int → Int → ByteArray → Int → Int → Int → Int → ByteArray → Int → Int → Int → Int → ByteArray → Rw → Rw → Rw → Rw → Rs) (q3 : Rw → Bool → Bool → Int → Bool → Bool → Bool → Bool → Bool → Bool → Int → Int → Int → Int → ByteArray → Int → Int → Int → Int → ByteArray → Int → Int → Int → Int → ByteArray → Int → Int → Int → Int → ByteArray → Rw → Rw → Rw → Rw → Rw → Rw → Rs) (q4 : Rw → Bool → Bool → Bool → Int → Bool → Bool → Bool → Bool → Bool → Bool → Int → Int → Int → Int → ByteArray → Int → Int → Int → Int → ByteArray → Int → Int → Int → Int → ByteArray → Rw → Rw → Rw → Rw → Rw → Rs) : Nat → Rw → Bool → Bool → Bool → Int → Bool → Bool → Bool → Int → Int → Int → Int → ByteArray → Int → Int → Int → Int → ByteArray → Int → Int → Int → Int → ByteArray → Rw → Rw → Rw → Rw → Rs
  | 0, _, _, _, _, _, _, _, _, _, _, _, _, _, _, _, _, _, _, _, _, _, _, _, _, _, _, _ => none
  | m + 1, l1, b1, b2, b3, n1, b4, b5, b6, n2, n3, n4, n5, s1, n6, n7, n8, n9, s2, n10, n11, n12, n13, s3, l2, l3, l4, l5 =>
    let y1 := decide (n1 < (l2.length : Int))
    if y1 then
     chk (decide (0 ≤ n1) && decide (n1 < l2.length)) <|
     let y2 := l2.getD (n1.toNat) []
     chk (decide (5 ≤ y2.length) && isF z38 0 y2) <|
     let y3 := t17 n10 n11 n12 n13 s3 l4 (asI (nthD y2 0)) (asI (nthD y2 1)) (asI (nthD y2 2)) (asI (nthD y2 3)) (asS (nthD y2 4))
     chk (okR zr17 zo17 y3) <|
     let y4 := asB (resC y3 1 0)
     let y5 := !y4
     chk ((decide (0 ≤ n1) && decide (n1 < l2.length)) || !(!y5)) <|
     let y6 := l2.getD (n1.toNat) []
     chk ((decide (5 ≤ y6.length) && isF z38 0 y6) || !(!y5)) <|
     let y7 := t45 (asI (nthD y6 0)) (asI (nthD y6 1)) (asI (nthD y6 2)) (asI (nthD y6 3)) (asS (nthD y6 4))
     chk ((okR zr45 zo45 y7) || !(!y5)) <|
     let y8 := y5 || (!(asB (resC y7 0 0)))
     if y8 then
      let y9 := asI (resC y3 0 0)
      let y10 := asI (resC y3 0 1)
      let y11 := asI (resC y3 0 2)
      let y12 := asI (resC y3 0 3)
      let y13 := asS (resC y3 0 4)
      let y14 := asL (resC y3 0 5)
      q1 l1 b2 b3 n1 y4 b4 b5 b6 y1 y8 n2 n3 n4 n5 s1 n6 n7 n8 n9 s2 n10 n11 n12 n13 s3 y9 y10 y11 y12 y13 l2 l3 l4 l5 y14
     else
      let y15 := asI (resC y3 0 0)
      let y16 := asI (resC y3 0 1)
      let y17 := asI (resC y3 0 2)
      let y18 := asI (resC y3 0 3)
      let y19 := asS (resC y3 0 4)
      let y20 := asL (resC y3 0 5)
      la10o10000003 t17 t26 t27 t43 t44 t45 t46 q1 q2 q3 q4 m l1 b1 b2 b3 (w64 (n1 + (1 : Int))) y4 b4 b5 b6 y1 y8 n2 n3 n4 n5 s1 n6 n7 n8 n9 s2 y15 y16 y17 y18 y19 l2 l3 l4 l5 y20
    else
     q2 l1 b1 b2 b3 n1 b4 b5 b6 y1 n2 n3 n4 n5 s1 n6 n7 n8 n9 s2 n10 n11 n12 n13 s3 l2 l3 l4 l5
def ta10 (t17 : Y17) (t26 : Y26) (t27 : Y27) (t43 : Y43) (t44 : Y44) (t45 : Y45) (t46 : Y46) (l1 : Rw) : Rs :=
  chk (okR zr43 zo43 (t43 l1)) <|
  let y1 := asB (resC (t43 l1) 0 0)
  if y1 then
   some ([.one (.b true)], [])
  else
   chk (okR zr44 zo44 (t44 l1)) <|
   let y2 := asI (resC (t44 l1) 0 0)
   let y3 := asI (resC (t44 l1) 0 1)
   let y4 := asI (resC (t44 l1) 0 2)
   let y5 := asI (resC (t44 l1) 0 3)
   let y6 := asS (resC (t44 l1) 0 4)
   let y7 := asL (resC (t44 l1) 0 5)
   let y8 := asI (resC (t44 l1) 1 0)
   let y9 := asI (resC (t44 l1) 1 1)
   let y10 := asI (resC (t44 l1) 1 2)
   let y11 := asI (resC (t44 l1) 1 3)
   let y12 := asS (resC (t44 l1) 1 4)
   let y13 := asL (resC (t44 l1) 1 5)
   let y14 := t27 y2 y3 y4 y5 y6 y7 y8 y9 y10 y11 y12 y13
   chk (okR zr27 zo27 y14) <|
   let y15 := t26 y2 y3 y4 y5 y6 y7 y8 y9 y10 y11 y12 y13
   chk (okR zr26 zo26 y15) <|
   let y16 := asB (resC y14 1 0)
   let y17 := asB (resC y15 1 0)
   let y18 := !(y16 == y17)
   if y18 then
    some ([.one (.b false)], [])
   else
    let y19 := !y16
    if y19 then
     let y20 := asL (resC y14 0 0)
     some ([.one (.b ((y20.length : Int) == (0 : Int)))], [])
    else
     let y21 := asL (resC y14 0 0)
     la10o3 t17 t26 t27 t43 t44 t45 t46
      (fun (l2 : Rw) (b1 b2 : Bool) (n1 : Int) (b3 b4 b5 b6 b7 b8 : Bool) (n2 n3 n4 n5 : Int) (s1 : ByteArray) (n6 n7 n8 n9 : Int) (s2 : ByteArray) (n10 n11 n12 n13 : Int) (s3 : ByteArray) (n14 n15 n16 n17 : Int) (s4 : ByteArray) (l3 l4 l5 l6 l7 : Rw) =>
       some ([.one (.b false)], []))
      (fun (l8 : Rw) (b9 b10 b11 : Bool) (n18 : Int) (b12 b13 b14 b15 : Bool) (n19 n20 n21 n22 : Int) (s5 : ByteArray) (n23 n24 n25 n26 : Int) (s6 : ByteArray) (n27 n28 n29 n30 : Int) (s7 : ByteArray) (l9 l10 l11 l12 : Rw) =>
       let y22 := t27 n23 n24 n25 n26 s6 l12 n23 n24 n25 n26 s6 l12
       chk (okR zr27 zo27 y22) <|
       let y23 := t46 n27 n28 n29 n30 s7 l11 n23 n24 n25 n26 s6 l12
       chk (okR zr46 zo46 y23) <|
       some ([.one (.b (((asB (resC y23 0 0)) && (asB (resC y22 1 0))) && (((asL (resC y22 0 0)).length : Int) == (0 : Int))))], []))
      (fun (l13 : Rw) (b16 b17 : Bool) (n31 : Int) (b18 b19 b20 b21 b22 b23 : Bool) (n32 n33 n34 n35 : Int) (s8 : ByteArray) (n36 n37 n38 n39 : Int) (s9 : ByteArray) (n40 n41 n42 n43 : Int) (s10 : ByteArray) (n44 n45 n46 n47 : Int) (s11 : ByteArray) (l14 l15 l16 l17 l18 l19 : Rw) =>
       some ([.one (.b false)], []))
      (fun (l20 : Rw) (b24 b25 b26 : Bool) (n48 : Int) (b27 b28 b29 b30 b31 b32 : Bool) (n49 n50 n51 n52 : Int) (s12 : ByteArray) (n53 n54 n55 n56 : Int) (s13 : ByteArray) (n57 n58 n59 n60 : Int) (s14 : ByteArray) (l21 l22 l23 l24 l25 : Rw) =>
       let y24 := t27 n53 n54 n55 n56 s13 l24 n53 n54 n55 n56 s13 l24
       chk (okR zr27 zo27 y24) <|
       let y25 := t46 n57 n58 n59 n60 s14 l25 n53 n54 n55 n56 s13 l24
       chk (okR zr46 zo46 y25) <|
       some ([.one (.b (((asB (resC y25 0 0)) && (asB (resC y24 1 0))) && (((asL (resC y24 0 0)).length : Int) == (0 : Int))))], [])) KK l1 false y16 y17 (0 : Int) y1 y18 y19 y2 y3 y4 y5 y6 y8 y9 y10 y11 y12 y2 y3 y4 y5 y6 y21 (asL (resC y15 0 0)) y7 y13
def t10 : Y10 := ta10 t17 t26 t27 t43 t44 t45 t46
def zr10 : List DV := [.one (.b false)]
def zo10 : Rw := []
def A10 : List TA := [.one (.l)]
end
end Go.Den.L10
