/- What the functions come to, as plain Lean. Printed by tw.py. -/
import Derived.Test.YtklnogkdclhdhaaDm8
set_option linter.unusedVariables false
namespace Go.Den.L11
open Go
noncomputable section
/-- The rounds that a loop is given: 2 ^ 64; so laid that nothing unfolds it. -/
noncomputable def KK : Nat := Classical.choose (⟨2 ^ 64, rfl⟩ : ∃ n : Nat, n = 2 ^ 64)
def w64 (x : Int) : Int := IntKind.wrap .i64 x
noncomputable def chk (b : Bool) (x : Rs) : Rs := if b then x else none
def bitAnd (k : IntKind) (a b : Int) : Int := k.wrap (BitVec.ofInt k.bits a &&& BitVec.ofInt k.bits b).toNat
def bitOr (k : IntKind) (a b : Int) : Int := k.wrap (BitVec.ofInt k.bits a ||| BitVec.ofInt k.bits b).toNat
def bitXor (k : IntKind) (a b : Int) : Int := k.wrap (BitVec.ofInt k.bits a ^^^ BitVec.ofInt k.bits b).toNat
def stR (xs : List (List D)) (i off : Nat) (ys : List D) : List (List D) := xs.modify i fun r => r.take off ++ ys ++ r.drop (off + ys.length)
def z3 : List D := [.i .i64 0]
def z5 : List D := [.i .u8 0]
def z38 : List D := [.i .i64 0, .i .i64 0, .i .i64 0, .i .i64 0, .s ⟨#[]⟩]
def z90 : List D := [.i .i64 0, .s ⟨#[]⟩]
abbrev Rw := List (List D)
abbrev Y43 := Rw → Rs
def t43 (l1 : Rw) : Rs :=
  some ([.one (.b (decide ((l1.length : Int) > (1048576 : Int))))], [])
def zr43 : List DV := [.one (.b false)]
def zo43 : Rw := []
def A43 : List TA := [.one (.l)]
abbrev Y72 := Rw → Rs
def l72o0 (l1 : Rw) (q1 : Int → Int → Bool → Rs) : Nat → Int → Int → SV → Rs
  | 0, _, _, _ => none
  | m + 1, n1, n2, v1 =>
    let y1 := (decide (n2 < (l1.length : Int))) && (decide (n2 < (4000 : Int)))
    if y1 then
     let y2 := l1.getD n2.toNat []
     chk (decide (0 ≤ n2) && decide (n2 < l1.length) && isRow z5 y2) <|
     l72o0 l1 q1 m (bitAnd .i64 (w64 ((w64 ((w64 (n1 * (131 : Int))) + (w64 (asI (nthD y2 0))))) + (7 : Int))) (1073741823 : Int)) (w64 (n2 + (1 : Int))) (.d (.b y1))
    else
     q1 n1 n2 y1
def t72 (l1 : Rw) : Rs :=
  l72o0 l1
   (fun (n1 n2 : Int) (b1 : Bool) =>
    some ([.ptr [.l l1, .i .i64 (0 : Int), .i .i64 n1]], [])) KK (w64 ((10101 : Int) + (l1.length : Int))) (0 : Int) SV.undef
def zr72 : List DV := [.ptr [.l [], .i .i64 0, .i .i64 0]]
def zo72 : Rw := []
def A72 : List TA := [.one (.l)]
abbrev Y93 := Rw → Int → Int → Rs
def t93 (l1 : Rw) (n1 n2 : Int) : Rs :=
  let k1 := fun (n3 n4 : Int) =>
   let y1 := w64 ((w64 (n2 * (6364136223846793005 : Int))) + (1442695040888963407 : Int))
   some ([.one (.i .i64 n3)], [[.l l1, .i .i64 n4, .i .i64 y1]])
  if decide (n1 < (l1.length : Int)) then
   let y2 := l1.getD n1.toNat []
   chk (decide (0 ≤ n1) && decide (n1 < l1.length) && isRow z5 y2) <|
   let y3 := w64 ((w64 (n2 * (6364136223846793005 : Int))) + (1442695040888963407 : Int))
   let y4 := bitAnd .i64 (bitXor .i64 (y3.fdiv (2 ^ (min (33 : Int).toNat (IntKind.bits .i64)))) (y3.fdiv (2 ^ (min (45 : Int).toNat (IntKind.bits .i64))))) (255 : Int)
   k1 (bitAnd .i64 (w64 (y4 + (w64 (asI (nthD y2 0))))) (255 : Int)) (w64 (n1 + (1 : Int)))
  else
   let y5 := w64 ((w64 (n2 * (6364136223846793005 : Int))) + (1442695040888963407 : Int))
   let y6 := bitAnd .i64 (bitXor .i64 (y5.fdiv (2 ^ (min (33 : Int).toNat (IntKind.bits .i64)))) (y5.fdiv (2 ^ (min (45 : Int).toNat (IntKind.bits .i64))))) (255 : Int)
   k1 y6 n1
def zr93 : List DV := [.one (.i .i64 0)]
def zo93 : Rw := [[.l [], .i .i64 0, .i .i64 0]]
def A93 : List TA := [.ptr [.l, .i .i64, .i .i64]]
abbrev Y79 := Rw → Int → Int → Int → Rs
def ta79 (t93 : Y93) (l1 : Rw) (n1 n2 n3 : Int) : Rs :=
  if decide (n3 ≤ (0 : Int)) then
   some ([.one (.i .i64 (0 : Int))], [[.l l1, .i .i64 n1, .i .i64 n2]])
  else
   if decide (n3 ≤ (256 : Int)) then
    let y1 := t93 l1 n1 n2
    chk (okR zr93 zo93 y1) <|
    chk (n3 != 0) <|
    some ([.one (.i .i64 ((asI (resC y1 0 0)).tmod n3))], [[.l l1, .i .i64 (asI (outC y1 0 1)), .i .i64 (asI (outC y1 0 2))]])
   else
    let y2 := t93 l1 n1 n2
    chk (okR zr93 zo93 y2) <|
    let y3 := t93 l1 (asI (outC y2 0 1)) (asI (outC y2 0 2))
    chk (okR zr93 zo93 y3) <|
    let y4 := t93 l1 (asI (outC y3 0 1)) (asI (outC y3 0 2))
    chk (okR zr93 zo93 y4) <|
    let y5 := t93 l1 (asI (outC y4 0 1)) (asI (outC y4 0 2))
    chk (okR zr93 zo93 y5) <|
    chk (n3 != 0) <|
    some ([.one (.i .i64 ((w64 ((w64 ((w64 ((w64 ((asI (resC y2 0 0)) * (16777216 : Int))) + (w64 ((asI (resC y3 0 0)) * (65536 : Int))))) + (w64 ((asI (resC y4 0 0)) * (256 : Int))))) + (asI (resC y5 0 0)))).tmod n3))], [[.l l1, .i .i64 (asI (outC y5 0 1)), .i .i64 (asI (outC y5 0 2))]])
def t79 : Y79 := ta79 t93
def zr79 : List DV := [.one (.i .i64 0)]
def zo79 : Rw := [[.l [], .i .i64 0, .i .i64 0]]
def A79 : List TA := [.ptr [.l, .i .i64, .i .i64], .one (.i .i64)]
abbrev Y74 := Rw → Int → Int → Int → Rs
def ta74 (t79 : Y79) (l1 : Rw) (n1 n2 n3 : Int) : Rs :=
  let y1 := t79 l1 n1 n2 n3
  chk (okR zr79 zo79 y1) <|
  some ([.one (.b ((asI (resC y1 0 0)) == (0 : Int)))], [[.l l1, .i .i64 (asI (outC y1 0 1)), .i .i64 (asI (outC y1 0 2))]])
def t74 : Y74 := ta74 t79
def zr74 : List DV := [.one (.b false)]
def zo74 : Rw := [[.l [], .i .i64 0, .i .i64 0]]
def A74 : List TA := [.ptr [.l, .i .i64, .i .i64], .one (.i .i64)]
abbrev Y92 := Rw → Int → Int → Int → Rs
def la92o0 (t79 : Y79) (t93 : Y93) (n1 : Int) (s1 : ByteArray) (n2 : Int) (l1 : Rw) (q1 : Int → SV → Bool → SV → SV → Int → Int → Rw → Rs) : Nat → Int → SV → SV → SV → SV → Int → Int → Rw → Rs
  | 0, _, _, _, _, _, _, _, _ => none
  | m + 1, n3, v1, v2, v3, v4, n4, n5, l2 =>
    let y1 := decide (n3 > (0 : Int))
    if y1 then
     let y2 := t93 l1 n4 n5
     chk (okR zr93 zo93 y2) <|
     let k1 := fun (n6 : Int) =>
      let k2 := fun (n7 : Int) =>
       let y3 := ([[.i .u8 (IntKind.wrap .u8 n7)]] : Rw)
       chk ((flatR 1 y3) && decide (l2.length + y3.length ≤ lim)) <|
       let y4 := n2 == (1 : Int)
       let y5 := n2 == (2 : Int)
       la92o0 t79 t93 n1 s1 n2 l1 q1 m (w64 (n3 - (1 : Int))) (.d (.i .i64 n7)) (.d (.b y1)) (.d (.b y4)) (.d (.b y5)) (asI (outC y2 0 1)) (asI (outC y2 0 2)) (l2 ++ y3)
      let y6 := n2 == (2 : Int)
      if y6 then
       k2 (w64 ((97 : Int) + (n6.tmod (4 : Int))))
      else
       k2 n6
     let y7 := n2 == (1 : Int)
     if y7 then
      let y8 := asI (resC y2 0 0)
      k1 (y8.tmod (2 : Int))
     else
      let y9 := asI (resC y2 0 0)
      k1 y9
    else
     q1 n3 (keepV [0, 576] v1) y1 (keepV [0, 576] v3) (keepV [0, 576] v4) n4 n5 l2
def ta92 (t79 : Y79) (t93 : Y93) (l1 : Rw) (n1 n2 n3 : Int) : Rs :=
  let y1 := t79 l1 n1 n2 (4 : Int)
  chk (okR zr79 zo79 y1) <|
  let y2 := t79 l1 (asI (outC y1 0 1)) (asI (outC y1 0 2)) (w64 (n3 + (1 : Int)))
  chk (okR zr79 zo79 y2) <|
  la92o0 t79 t93 n3 (⟨#[]⟩ : ByteArray) (asI (resC y1 0 0)) l1
   (fun (n4 : Int) (v1 : SV) (b1 : Bool) (v2 v3 : SV) (n5 n6 : Int) (l2 : Rw) =>
    chk (isBytes l2) <|
    some ([.one (.s ⟨(bytesD l2).toArray⟩)], [[.l l1, .i .i64 n5, .i .i64 n6]])) KK (asI (resC y2 0 0)) SV.undef SV.undef SV.undef SV.undef (asI (outC y2 0 1)) (asI (outC y2 0 2)) ([] : Rw)
def t92 : Y92 := ta92 t79 t93
def zr92 : List DV := [.one (.s ⟨#[]⟩)]
def zo92 : Rw := [[.l [], .i .i64 0, .i .i64 0]]
def A92 : List TA := [.ptr [.l, .i .i64, .i .i64], .one (.i .i64)]
abbrev Y96 := Rw → Int → Int → Int → Int → Int → Rs
def la96o0 (t74 : Y74) (t79 : Y79) (t92 : Y92) (n1 n2 : Int) (l1 : Rw) (q1 : Int → Int → Bool → Bool → Bool → Int → Int → Rw → Rs) (q2 : Int → Int → Bool → SV → SV → Int → Int → Rw → Rs) : Nat → Int → Int → SV → SV → SV → Int → Int → Rw → Rs
  | 0, _, _, _, _, _, _, _, _ => none
  | m + 1, n3, n4, v1, v2, v3, n5, n6, l2 =>
    let y1 := decide (n4 > (0 : Int))
    if y1 then
     let y2 := decide (n3 < (1 : Int))
     let y3 := decide (n3 < n2)
     if (!y2) && y3 then
      let y4 := t74 l1 n5 n6 (3 : Int)
      chk (okR zr74 zo74 y4) <|
      let k1 := fun (n7 : Int) =>
       let y5 := decide (n7 > n2)
       if y5 then
        let y6 := y2 || (y3 && (asB (resC y4 0 0)))
        let y7 := asI (outC y4 0 1)
        let y8 := asI (outC y4 0 2)
        q1 n7 n4 y1 y6 y5 y7 y8 l2
       else
        let y9 := asI (outC y4 0 1)
        let y10 := asI (outC y4 0 2)
        let y11 := t92 l1 y9 y10 (8 : Int)
        chk (okR zr92 zo92 y11) <|
        let y12 := ([[.i .i64 n7, .s (asS (resC y11 0 0))]] : Rw)
        chk ((flatR 2 y12) && decide (l2.length + y12.length ≤ lim)) <|
        let y13 := y2 || (y3 && (asB (resC y4 0 0)))
        la96o0 t74 t79 t92 n1 n2 l1 q1 q2 m n7 (w64 (n4 - (1 : Int))) (.d (.b y1)) (.d (.b y13)) (.d (.b y5)) (asI (outC y11 0 1)) (asI (outC y11 0 2)) (l2 ++ y12)
      let y14 := y2 || (y3 && (asB (resC y4 0 0)))
      if y14 then
       k1 (w64 (n3 + (1 : Int)))
      else
       k1 n3
     else
      chk ((!y3) || !(!y2)) <|
      let k2 := fun (n8 : Int) =>
       let y15 := decide (n8 > n2)
       if y15 then
        let y16 := y2 && true
        q1 n8 n4 y1 y16 y15 n5 n6 l2
       else
        let y17 := t92 l1 n5 n6 (8 : Int)
        chk (okR zr92 zo92 y17) <|
        let y18 := ([[.i .i64 n8, .s (asS (resC y17 0 0))]] : Rw)
        chk ((flatR 2 y18) && decide (l2.length + y18.length ≤ lim)) <|
        let y19 := y2 && true
        la96o0 t74 t79 t92 n1 n2 l1 q1 q2 m n8 (w64 (n4 - (1 : Int))) (.d (.b y1)) (.d (.b y19)) (.d (.b y15)) (asI (outC y17 0 1)) (asI (outC y17 0 2)) (l2 ++ y18)
      let y20 := y2 && true
      if y20 then
       k2 (w64 (n3 + (1 : Int)))
      else
       k2 n3
    else
     q2 n3 n4 y1 (keepV [0, 704] v2) (keepV [0, 704] v3) n5 n6 l2
def ta96 (t74 : Y74) (t79 : Y79) (t92 : Y92) (l1 : Rw) (n1 n2 n3 n4 n5 : Int) : Rs :=
  let y1 := t79 l1 n1 n2 (w64 (n3 + (1 : Int)))
  chk (okR zr79 zo79 y1) <|
  la96o0 t74 t79 t92 n3 n5 l1
   (fun (n6 n7 : Int) (b1 b2 b3 : Bool) (n8 n9 : Int) (l2 : Rw) =>
    some ([.one (.l l2)], [[.l l1, .i .i64 n8, .i .i64 n9]]))
   (fun (n10 n11 : Int) (b4 : Bool) (v1 v2 : SV) (n12 n13 : Int) (l3 : Rw) =>
    some ([.one (.l l3)], [[.l l1, .i .i64 n12, .i .i64 n13]])) KK n4 (asI (resC y1 0 0)) SV.undef SV.undef SV.undef (asI (outC y1 0 1)) (asI (outC y1 0 2)) ([] : Rw)
def t96 : Y96 := ta96 t74 t79 t92
def zr96 : List DV := [.one (.l [])]
def zo96 : Rw := [[.l [], .i .i64 0, .i .i64 0]]
def A96 : List TA := [.ptr [.l, .i .i64, .i .i64], .one (.i .i64), .one (.i .i64), .one (.i .i64)]
abbrev Y91 := Rw → Int → Int → Rs
def la91o3 (t74 : Y74) (t79 : Y79) (t92 : Y92) (t96 : Y96) (n1 : Int) (b1 b2 b3 : Bool) (l1 : Rw) (n2 n3 n4 n5 n6 n7 : Int) (s1 : ByteArray) (n8 n9 n10 n11 : Int) (s2 : ByteArray) (q1 : Bool → Rw → Rs) : Nat → SV → Rw → Rs
  | 0, _, _ => none
  | m + 1, v1, l2 =>
    let y1 := decide ((l2.length : Int) < n1)
    if y1 then
     let y2 := ([[.i .i64 n8, .s (⟨#[]⟩ : ByteArray)]] : Rw)
     chk ((flatR 2 y2) && decide (l2.length + y2.length ≤ lim)) <|
     la91o3 t74 t79 t92 t96 n1 b1 b2 b3 l1 n2 n3 n4 n5 n6 n7 s1 n8 n9 n10 n11 s2 q1 m (.d (.b y1)) (l2 ++ y2)
    else
     q1 y1 l2
def ta91 (t74 : Y74) (t79 : Y79) (t92 : Y92) (t96 : Y96) (l1 : Rw) (n1 n2 : Int) : Rs :=
  let y1 := t79 l1 n1 n2 (8 : Int)
  chk (okR zr79 zo79 y1) <|
  let y2 := t79 l1 (asI (outC y1 0 1)) (asI (outC y1 0 2)) (6 : Int)
  chk (okR zr79 zo79 y2) <|
  let y3 := asI (resC y1 0 0)
  let y4 := decide (y3 > (0 : Int))
  if y4 then
   let y5 := asI (outC y2 0 1)
   let y6 := asI (outC y2 0 2)
   let y7 := t74 l1 y5 y6 (2 : Int)
   chk (okR zr74 zo74 y7) <|
   let k1 := fun (n3 n4 n5 n6 : Int) (s1 : ByteArray) =>
    let y8 := t96 l1 n3 n4 (6 : Int) n6 y3
    chk (okR zr96 zo96 y8) <|
    let y9 := decide (y3 > (0 : Int))
    if y9 then
     let y10 := asI (outC y8 0 1)
     let y11 := asI (outC y8 0 2)
     let y12 := t74 l1 y10 y11 (25 : Int)
     chk (okR zr74 zo74 y12) <|
     let k2 := fun (n7 n8 n9 n10 : Int) (s2 : ByteArray) =>
      let y13 := decide (y3 > (0 : Int))
      if y13 then
       let y14 := t74 l1 n7 n8 (25 : Int)
       chk (okR zr74 zo74 y14) <|
       let y15 := y13 && (asB (resC y14 0 0))
       if y15 then
        let y16 := asI (outC y14 0 1)
        let y17 := asI (outC y14 0 2)
        let y18 := t79 l1 y16 y17 (2 : Int)
        chk (okR zr79 zo79 y18) <|
        let y19 := y4 && (asB (resC y7 0 0))
        let y20 := y9 && (asB (resC y12 0 0))
        let y21 := asI (outC y18 0 1)
        let y22 := asI (outC y18 0 2)
        let y23 := w64 ((asI (resC y2 0 0)) - (1 : Int))
        let y24 := asL (resC y8 0 0)
        la91o3 t74 t79 t92 t96 (w64 ((60 : Int) + (asI (resC y18 0 0)))) y19 y20 y15 l1 y21 y22 (0 : Int) (0 : Int) (0 : Int) (0 : Int) (⟨#[]⟩ : ByteArray) y3 y23 n9 n10 s2
         (fun (b1 : Bool) (l2 : Rw) =>
          some ([.agg [.i .i64 y3, .i .i64 y23, .i .i64 n9, .i .i64 n10, .s s2, .l l2]], [[.l l1, .i .i64 y21, .i .i64 y22]])) KK SV.undef y24
       else
        let y25 := w64 ((asI (resC y2 0 0)) - (1 : Int))
        let y26 := asL (resC y8 0 0)
        let y27 := asI (outC y14 0 1)
        let y28 := asI (outC y14 0 2)
        some ([.agg [.i .i64 y3, .i .i64 y25, .i .i64 n9, .i .i64 n10, .s s2, .l y26]], [[.l l1, .i .i64 y27, .i .i64 y28]])
      else
       chk (!y13) <|
       let y29 := w64 ((asI (resC y2 0 0)) - (1 : Int))
       let y30 := asL (resC y8 0 0)
       some ([.agg [.i .i64 y3, .i .i64 y29, .i .i64 n9, .i .i64 n10, .s s2, .l y30]], [[.l l1, .i .i64 n7, .i .i64 n8]])
     let y31 := y9 && (asB (resC y12 0 0))
     if y31 then
      let y32 := asI (outC y12 0 1)
      let y33 := asI (outC y12 0 2)
      let y34 := t79 l1 y32 y33 (2 : Int)
      chk (okR zr79 zo79 y34) <|
      let y35 := asL (resC y8 0 0)
      k2 (asI (outC y34 0 1)) (asI (outC y34 0 2)) (w64 ((w64 ((100000 : Int) - (y35.length : Int))) + (asI (resC y34 0 0)))) (1 : Int) (⟨#[]⟩ : ByteArray)
     else
      let y36 := asI (outC y12 0 1)
      let y37 := asI (outC y12 0 2)
      k2 y36 y37 n5 n6 s1
    else
     chk (!y9) <|
     let y38 := decide (y3 > (0 : Int))
     if y38 then
      let y39 := asI (outC y8 0 1)
      let y40 := asI (outC y8 0 2)
      let y41 := t74 l1 y39 y40 (25 : Int)
      chk (okR zr74 zo74 y41) <|
      let y42 := y38 && (asB (resC y41 0 0))
      if y42 then
       let y43 := asI (outC y41 0 1)
       let y44 := asI (outC y41 0 2)
       let y45 := t79 l1 y43 y44 (2 : Int)
       chk (okR zr79 zo79 y45) <|
       let y46 := y4 && (asB (resC y7 0 0))
       let y47 := asI (outC y45 0 1)
       let y48 := asI (outC y45 0 2)
       let y49 := w64 ((asI (resC y2 0 0)) - (1 : Int))
       let y50 := asL (resC y8 0 0)
       la91o3 t74 t79 t92 t96 (w64 ((60 : Int) + (asI (resC y45 0 0)))) y46 false y42 l1 y47 y48 (0 : Int) (0 : Int) (0 : Int) (0 : Int) (⟨#[]⟩ : ByteArray) y3 y49 n5 n6 s1
        (fun (b2 : Bool) (l3 : Rw) =>
         some ([.agg [.i .i64 y3, .i .i64 y49, .i .i64 n5, .i .i64 n6, .s s1, .l l3]], [[.l l1, .i .i64 y47, .i .i64 y48]])) KK SV.undef y50
      else
       let y51 := w64 ((asI (resC y2 0 0)) - (1 : Int))
       let y52 := asL (resC y8 0 0)
       let y53 := asI (outC y41 0 1)
       let y54 := asI (outC y41 0 2)
       some ([.agg [.i .i64 y3, .i .i64 y51, .i .i64 n5, .i .i64 n6, .s s1, .l y52]], [[.l l1, .i .i64 y53, .i .i64 y54]])
     else
      chk (!y38) <|
      let y55 := w64 ((asI (resC y2 0 0)) - (1 : Int))
      let y56 := asL (resC y8 0 0)
      let y57 := asI (outC y8 0 1)
      let y58 := asI (outC y8 0 2)
      some ([.agg [.i .i64 y3, .i .i64 y55, .i .i64 n5, .i .i64 n6, .s s1, .l y56]], [[.l l1, .i .i64 y57, .i .i64 y58]])
   let y59 := y4 && (asB (resC y7 0 0))
   if y59 then
    let y60 := asI (outC y7 0 1)
    let y61 := asI (outC y7 0 2)
    let y62 := t79 l1 y60 y61 (9 : Int)
    chk (okR zr79 zo79 y62) <|
    let y63 := t79 l1 (asI (outC y62 0 1)) (asI (outC y62 0 2)) y3
    chk (okR zr79 zo79 y63) <|
    let y64 := t92 l1 (asI (outC y63 0 1)) (asI (outC y63 0 2)) (12 : Int)
    chk (okR zr92 zo92 y64) <|
    k1 (asI (outC y64 0 1)) (asI (outC y64 0 2)) (w64 ((1 : Int) + (asI (resC y62 0 0)))) (w64 ((1 : Int) + (asI (resC y63 0 0)))) (asS (resC y64 0 0))
   else
    let y65 := asI (outC y7 0 1)
    let y66 := asI (outC y7 0 2)
    k1 y65 y66 (0 : Int) (0 : Int) (⟨#[]⟩ : ByteArray)
  else
   chk (!y4) <|
   let y67 := asI (outC y2 0 1)
   let y68 := asI (outC y2 0 2)
   let y69 := t96 l1 y67 y68 (6 : Int) (0 : Int) y3
   chk (okR zr96 zo96 y69) <|
   let y70 := decide (y3 > (0 : Int))
   if y70 then
    let y71 := asI (outC y69 0 1)
    let y72 := asI (outC y69 0 2)
    let y73 := t74 l1 y71 y72 (25 : Int)
    chk (okR zr74 zo74 y73) <|
    let k3 := fun (n11 n12 n13 n14 : Int) =>
     let y74 := decide (y3 > (0 : Int))
     if y74 then
      let y75 := t74 l1 n11 n12 (25 : Int)
      chk (okR zr74 zo74 y75) <|
      let y76 := y74 && (asB (resC y75 0 0))
      if y76 then
       let y77 := asI (outC y75 0 1)
       let y78 := asI (outC y75 0 2)
       let y79 := t79 l1 y77 y78 (2 : Int)
       chk (okR zr79 zo79 y79) <|
       let y80 := y70 && (asB (resC y73 0 0))
       let y81 := asI (outC y79 0 1)
       let y82 := asI (outC y79 0 2)
       let y83 := w64 ((asI (resC y2 0 0)) - (1 : Int))
       let y84 := asL (resC y69 0 0)
       la91o3 t74 t79 t92 t96 (w64 ((60 : Int) + (asI (resC y79 0 0)))) false y80 y76 l1 y81 y82 (0 : Int) (0 : Int) (0 : Int) (0 : Int) (⟨#[]⟩ : ByteArray) y3 y83 n13 n14 (⟨#[]⟩ : ByteArray)
        (fun (b3 : Bool) (l4 : Rw) =>
         some ([.agg [.i .i64 y3, .i .i64 y83, .i .i64 n13, .i .i64 n14, .s (⟨#[]⟩ : ByteArray), .l l4]], [[.l l1, .i .i64 y81, .i .i64 y82]])) KK SV.undef y84
      else
       let y85 := w64 ((asI (resC y2 0 0)) - (1 : Int))
       let y86 := asL (resC y69 0 0)
       let y87 := asI (outC y75 0 1)
       let y88 := asI (outC y75 0 2)
       some ([.agg [.i .i64 y3, .i .i64 y85, .i .i64 n13, .i .i64 n14, .s (⟨#[]⟩ : ByteArray), .l y86]], [[.l l1, .i .i64 y87, .i .i64 y88]])
     else
      chk (!y74) <|
      let y89 := w64 ((asI (resC y2 0 0)) - (1 : Int))
      let y90 := asL (resC y69 0 0)
      some ([.agg [.i .i64 y3, .i .i64 y89, .i .i64 n13, .i .i64 n14, .s (⟨#[]⟩ : ByteArray), .l y90]], [[.l l1, .i .i64 n11, .i .i64 n12]])
    let y91 := y70 && (asB (resC y73 0 0))
    if y91 then
     let y92 := asI (outC y73 0 1)
     let y93 := asI (outC y73 0 2)
     let y94 := t79 l1 y92 y93 (2 : Int)
     chk (okR zr79 zo79 y94) <|
     let y95 := asL (resC y69 0 0)
     k3 (asI (outC y94 0 1)) (asI (outC y94 0 2)) (w64 ((w64 ((100000 : Int) - (y95.length : Int))) + (asI (resC y94 0 0)))) (1 : Int)
    else
     let y96 := asI (outC y73 0 1)
     let y97 := asI (outC y73 0 2)
     k3 y96 y97 (0 : Int) (0 : Int)
   else
    chk (!y70) <|
    let y98 := decide (y3 > (0 : Int))
    if y98 then
     let y99 := asI (outC y69 0 1)
     let y100 := asI (outC y69 0 2)
     let y101 := t74 l1 y99 y100 (25 : Int)
     chk (okR zr74 zo74 y101) <|
     let y102 := y98 && (asB (resC y101 0 0))
     if y102 then
      let y103 := asI (outC y101 0 1)
      let y104 := asI (outC y101 0 2)
      let y105 := t79 l1 y103 y104 (2 : Int)
      chk (okR zr79 zo79 y105) <|
      let y106 := asI (outC y105 0 1)
      let y107 := asI (outC y105 0 2)
      let y108 := w64 ((asI (resC y2 0 0)) - (1 : Int))
      let y109 := asL (resC y69 0 0)
      la91o3 t74 t79 t92 t96 (w64 ((60 : Int) + (asI (resC y105 0 0)))) false false y102 l1 y106 y107 (0 : Int) (0 : Int) (0 : Int) (0 : Int) (⟨#[]⟩ : ByteArray) y3 y108 (0 : Int) (0 : Int) (⟨#[]⟩ : ByteArray)
       (fun (b4 : Bool) (l5 : Rw) =>
        some ([.agg [.i .i64 y3, .i .i64 y108, .i .i64 (0 : Int), .i .i64 (0 : Int), .s (⟨#[]⟩ : ByteArray), .l l5]], [[.l l1, .i .i64 y106, .i .i64 y107]])) KK SV.undef y109
     else
      let y110 := w64 ((asI (resC y2 0 0)) - (1 : Int))
      let y111 := asL (resC y69 0 0)
      let y112 := asI (outC y101 0 1)
      let y113 := asI (outC y101 0 2)
      some ([.agg [.i .i64 y3, .i .i64 y110, .i .i64 (0 : Int), .i .i64 (0 : Int), .s (⟨#[]⟩ : ByteArray), .l y111]], [[.l l1, .i .i64 y112, .i .i64 y113]])
    else
     chk (!y98) <|
     let y114 := w64 ((asI (resC y2 0 0)) - (1 : Int))
     let y115 := asL (resC y69 0 0)
     let y116 := asI (outC y69 0 1)
     let y117 := asI (outC y69 0 2)
     some ([.agg [.i .i64 y3, .i .i64 y114, .i .i64 (0 : Int), .i .i64 (0 : Int), .s (⟨#[]⟩ : ByteArray), .l y115]], [[.l l1, .i .i64 y116, .i .i64 y117]])
def t91 : Y91 := ta91 t74 t79 t92 t96
def zr91 : List DV := [.agg [.i .i64 0, .i .i64 0, .i .i64 0, .i .i64 0, .s ⟨#[]⟩, .l []]]
def zo91 : Rw := [[.l [], .i .i64 0, .i .i64 0]]
def A91 : List TA := [.ptr [.l, .i .i64, .i .i64]]
abbrev Y81 := Rw → Int → Int → Rw → Rs
def ta81 (t79 : Y79) (l1 : Rw) (n1 n2 : Int) (l2 : Rw) : Rs :=
  let y1 := t79 l1 n1 n2 (l2.length : Int)
  chk (okR zr79 zo79 y1) <|
  let y2 := asI (resC y1 0 0)
  let y3 := l2.getD y2.toNat []
  chk (decide (0 ≤ y2) && decide (y2 < l2.length) && isRow z3 y3) <|
  some ([.one (.i .i64 (asI (nthD y3 0)))], [[.l l1, .i .i64 (asI (outC y1 0 1)), .i .i64 (asI (outC y1 0 2))]])
def t81 : Y81 := ta81 t79
def zr81 : List DV := [.one (.i .i64 0)]
def zo81 : Rw := [[.l [], .i .i64 0, .i .i64 0]]
def A81 : List TA := [.ptr [.l, .i .i64, .i .i64], .one (.l)]
abbrev Y73 := Rw → Int → Int → Rs
def ta73 (t74 : Y74) (t79 : Y79) (t81 : Y81) (t91 : Y91) (l1 : Rw) (n1 n2 : Int) : Rs :=
  let y1 := t91 l1 n1 n2
  chk (okR zr91 zo91 y1) <|
  let y2 := t74 l1 (asI (outC y1 0 1)) (asI (outC y1 0 2)) (8 : Int)
  chk (okR zr74 zo74 y2) <|
  if asB (resC y2 0 0) then
   let y3 := asI (outC y2 0 1)
   let y4 := asI (outC y2 0 2)
   let y5 := t79 l1 y3 y4 (6 : Int)
   chk (okR zr79 zo79 y5) <|
   let y6 := asI (resC y5 0 0)
   if y6 == (0 : Int) then
    let y7 := asI (outC y5 0 1)
    let y8 := asI (outC y5 0 2)
    let y9 := t81 l1 y7 y8 ([[.i .i64 (-1 : Int)], [.i .i64 (0 : Int)], [.i .i64 (100000 : Int)], [.i .i64 (100001 : Int)]] : Rw)
    chk (okR zr81 zo81 y9) <|
    let y10 := asI (resC y1 0 1)
    let y11 := asI (resC y1 0 2)
    let y12 := asI (resC y1 0 3)
    let y13 := asS (resC y1 0 4)
    let y14 := asL (resC y1 0 5)
    some ([.agg [.i .i64 (asI (resC y9 0 0)), .i .i64 y10, .i .i64 y11, .i .i64 y12, .s y13, .l y14]], [[.l l1, .i .i64 (asI (outC y9 0 1)), .i .i64 (asI (outC y9 0 2))]])
   else
    if y6 == (1 : Int) then
     let y15 := asI (outC y5 0 1)
     let y16 := asI (outC y5 0 2)
     let y17 := t81 l1 y15 y16 ([[.i .i64 (-2 : Int)], [.i .i64 (5 : Int)]] : Rw)
     chk (okR zr81 zo81 y17) <|
     let y18 := asI (resC y1 0 0)
     let y19 := asI (resC y1 0 2)
     let y20 := asI (resC y1 0 3)
     let y21 := asS (resC y1 0 4)
     let y22 := asL (resC y1 0 5)
     some ([.agg [.i .i64 y18, .i .i64 (asI (resC y17 0 0)), .i .i64 y19, .i .i64 y20, .s y21, .l y22]], [[.l l1, .i .i64 (asI (outC y17 0 1)), .i .i64 (asI (outC y17 0 2))]])
    else
     if y6 == (2 : Int) then
      let y23 := asI (outC y5 0 1)
      let y24 := asI (outC y5 0 2)
      let y25 := t81 l1 y23 y24 ([[.i .i64 (-1 : Int)], [.i .i64 (0 : Int)], [.i .i64 (3 : Int)], [.i .i64 (100000 : Int)], [.i .i64 (100001 : Int)]] : Rw)
      chk (okR zr81 zo81 y25) <|
      let y26 := asI (resC y1 0 0)
      let y27 := asI (resC y1 0 1)
      let y28 := asI (resC y1 0 3)
      let y29 := asS (resC y1 0 4)
      let y30 := asL (resC y1 0 5)
      some ([.agg [.i .i64 y26, .i .i64 y27, .i .i64 (asI (resC y25 0 0)), .i .i64 y28, .s y29, .l y30]], [[.l l1, .i .i64 (asI (outC y25 0 1)), .i .i64 (asI (outC y25 0 2))]])
     else
      if y6 == (3 : Int) then
       let y31 := asI (outC y5 0 1)
       let y32 := asI (outC y5 0 2)
       let y33 := t79 l1 y31 y32 (10 : Int)
       chk (okR zr79 zo79 y33) <|
       let y34 := asI (resC y1 0 0)
       let y35 := asI (resC y1 0 1)
       let y36 := asI (resC y1 0 2)
       let y37 := asS (resC y1 0 4)
       let y38 := asL (resC y1 0 5)
       some ([.agg [.i .i64 y34, .i .i64 y35, .i .i64 y36, .i .i64 (w64 ((asI (resC y33 0 0)) - (1 : Int))), .s y37, .l y38]], [[.l l1, .i .i64 (asI (outC y33 0 1)), .i .i64 (asI (outC y33 0 2))]])
      else
       let k1 := fun (n3 n4 : Int) (s1 : ByteArray) (l2 : Rw) =>
        let y39 := asI (resC y1 0 0)
        let y40 := asI (resC y1 0 1)
        let y41 := asI (resC y1 0 2)
        let y42 := asI (resC y1 0 3)
        some ([.agg [.i .i64 y39, .i .i64 y40, .i .i64 y41, .i .i64 y42, .s s1, .l l2]], [[.l l1, .i .i64 n3, .i .i64 n4]])
       if y6 == (4 : Int) then
        let y43 := asI (outC y5 0 1)
        let y44 := asI (outC y5 0 2)
        let y45 := t79 l1 y43 y44 (10 : Int)
        chk (okR zr79 zo79 y45) <|
        let y46 := ([[.i .i64 (w64 ((asI (resC y45 0 0)) - (1 : Int))), .s (⟨#[]⟩ : ByteArray)]] : Rw)
        let y47 := asL (resC y1 0 5)
        chk ((flatR 2 y46) && decide (y47.length + y46.length ≤ lim)) <|
        let y48 := asS (resC y1 0 4)
        k1 (asI (outC y45 0 1)) (asI (outC y45 0 2)) y48 (y47 ++ y46)
       else
        let y49 := asS (resC y1 0 4)
        chk (decide (y49.size + (⟨#[120]⟩ : ByteArray).size ≤ lim)) <|
        let y50 := asI (outC y5 0 1)
        let y51 := asI (outC y5 0 2)
        let y52 := asL (resC y1 0 5)
        k1 y50 y51 (y49 ++ (⟨#[120]⟩ : ByteArray)) y52
  else
   let y53 := asI (resC y1 0 0)
   let y54 := asI (resC y1 0 1)
   let y55 := asI (resC y1 0 2)
   let y56 := asI (resC y1 0 3)
   let y57 := asS (resC y1 0 4)
   let y58 := asL (resC y1 0 5)
   let y59 := asI (outC y2 0 1)
   let y60 := asI (outC y2 0 2)
   some ([.agg [.i .i64 y53, .i .i64 y54, .i .i64 y55, .i .i64 y56, .s y57, .l y58]], [[.l l1, .i .i64 y59, .i .i64 y60]])
def t73 : Y73 := ta73 t74 t79 t81 t91
def zr73 : List DV := [.agg [.i .i64 0, .i .i64 0, .i .i64 0, .i .i64 0, .s ⟨#[]⟩, .l []]]
def zo73 : Rw := [[.l [], .i .i64 0, .i .i64 0]]
def A73 : List TA := [.ptr [.l, .i .i64, .i .i64]]
abbrev Y80 := Rw → Int → Int → Int → Int → Int → Int → ByteArray → Rw → Rs
def la80o9 (t74 : Y74) (t79 : Y79) (t81 : Y81) (t92 : Y92) (n1 n2 n3 n4 : Int) (s1 : ByteArray) (l1 : Rw) (n5 n6 n7 : Int) (b1 b2 : Bool) (n8 : Int) (b3 b4 b5 b6 : Bool) (l2 : Rw) (n9 n10 n11 n12 n13 n14 : Int) (s2 : ByteArray) (l3 : Rw) (n15 n16 n17 n18 : Int) (s3 : ByteArray) (n19 n20 n21 n22 : Int) (s4 : ByteArray) (q1 : Bool → Rw → Rs) : Nat → SV → Rw → Rs
  | 0, _, _ => none
  | m + 1, v1, l4 =>
    let y1 := decide ((l4.length : Int) < n6)
    if y1 then
     let y2 := ([[.i .u8 (5 : Int)]] : Rw)
     chk ((flatR 1 y2) && decide (l4.length + y2.length ≤ lim)) <|
     la80o9 t74 t79 t81 t92 n1 n2 n3 n4 s1 l1 n5 n6 n7 b1 b2 n8 b3 b4 b5 b6 l2 n9 n10 n11 n12 n13 n14 s2 l3 n15 n16 n17 n18 s3 n19 n20 n21 n22 s4 q1 m (.d (.b y1)) (l4 ++ y2)
    else
     q1 y1 l4
def la80o100009 (t74 : Y74) (t79 : Y79) (t81 : Y81) (t92 : Y92) (n1 n2 n3 n4 : Int) (s1 : ByteArray) (l1 : Rw) (n5 n6 n7 : Int) (b1 b2 b3 : Bool) (n8 : Int) (b4 b5 b6 b7 : Bool) (l2 : Rw) (n9 n10 n11 n12 n13 n14 : Int) (s2 : ByteArray) (l3 : Rw) (n15 n16 n17 n18 : Int) (s3 : ByteArray) (n19 n20 n21 n22 : Int) (s4 : ByteArray) (q1 : Bool → Rw → Rs) : Nat → SV → Rw → Rs
  | 0, _, _ => none
  | m + 1, v1, l4 =>
    let y1 := decide ((l4.length : Int) < n6)
    if y1 then
     let y2 := ([[.i .u8 (5 : Int)]] : Rw)
     chk ((flatR 1 y2) && decide (l4.length + y2.length ≤ lim)) <|
     la80o100009 t74 t79 t81 t92 n1 n2 n3 n4 s1 l1 n5 n6 n7 b1 b2 b3 n8 b4 b5 b6 b7 l2 n9 n10 n11 n12 n13 n14 s2 l3 n15 n16 n17 n18 s3 n19 n20 n21 n22 s4 q1 m (.d (.b y1)) (l4 ++ y2)
    else
     q1 y1 l4
def la80o200009 (t74 : Y74) (t79 : Y79) (t81 : Y81) (t92 : Y92) (n1 n2 n3 n4 : Int) (s1 : ByteArray) (l1 : Rw) (n5 n6 n7 n8 : Int) (b1 b2 b3 b4 b5 : Bool) (n9 : Int) (b6 b7 b8 b9 : Bool) (l2 : Rw) (n10 n11 n12 n13 n14 n15 : Int) (s2 : ByteArray) (l3 : Rw) (n16 n17 n18 n19 : Int) (s3 : ByteArray) (n20 n21 n22 n23 : Int) (s4 : ByteArray) (q1 : Bool → Rw → Rs) : Nat → SV → Rw → Rs
  | 0, _, _ => none
  | m + 1, v1, l4 =>
    let y1 := decide ((l4.length : Int) < n7)
    if y1 then
     let y2 := ([[.i .u8 (5 : Int)]] : Rw)
     chk ((flatR 1 y2) && decide (l4.length + y2.length ≤ lim)) <|
     la80o200009 t74 t79 t81 t92 n1 n2 n3 n4 s1 l1 n5 n6 n7 n8 b1 b2 b3 b4 b5 n9 b6 b7 b8 b9 l2 n10 n11 n12 n13 n14 n15 s2 l3 n16 n17 n18 n19 s3 n20 n21 n22 n23 s4 q1 m (.d (.b y1)) (l4 ++ y2)
    else
     q1 y1 l4
def la80o300009 (t74 : Y74) (t79 : Y79) (t81 : Y81) (t92 : Y92) (n1 n2 n3 n4 : Int) (s1 : ByteArray) (l1 : Rw) (n5 n6 n7 : Int) (b1 b2 b3 b4 : Bool) (n8 : Int) (b5 b6 b7 b8 : Bool) (l2 : Rw) (n9 n10 n11 n12 n13 n14 : Int) (s2 : ByteArray) (l3 : Rw) (n15 n16 n17 n18 : Int) (s3 : ByteArray) (n19 n20 n21 n22 : Int) (s4 : ByteArray) (q1 : Bool → Rw → Rs) : Nat → SV → Rw → Rs
  | 0, _, _ => none
  | m + 1, v1, l4 =>
    let y1 := decide ((l4.length : Int) < n6)
    if y1 then
     let y2 := ([[.i .u8 (5 : Int)]] : Rw)
     chk ((flatR 1 y2) && decide (l4.length + y2.length ≤ lim)) <|
     la80o300009 t74 t79 t81 t92 n1 n2 n3 n4 s1 l1 n5 n6 n7 b1 b2 b3 b4 n8 b5 b6 b7 b8 l2 n9 n10 n11 n12 n13 n14 s2 l3 n15 n16 n17 n18 s3 n19 n20 n21 n22 s4 q1 m (.d (.b y1)) (l4 ++ y2)
    else
     q1 y1 l4
def ta80 (t74 : Y74) (t79 : Y79) (t81 : Y81) (t92 : Y92) (l1 : Rw) (n1 n2 n3 n4 n5 n6 : Int) (s1 : ByteArray) (l2 : Rw) : Rs :=
  let y1 := t79 l1 n1 n2 (4 : Int)
  chk (okR zr79 zo79 y1) <|
  let y2 := w64 ((1 : Int) + (asI (resC y1 0 0)))
  let y3 := y2 == (1 : Int)
  if y3 then
   let y4 := asI (outC y1 0 1)
   let y5 := asI (outC y1 0 2)
   let y6 := t79 l1 y4 y5 (3 : Int)
   chk (okR zr79 zo79 y6) <|
   let y7 := t79 l1 (asI (outC y6 0 1)) (asI (outC y6 0 2)) (6 : Int)
   chk (okR zr79 zo79 y7) <|
   let y8 := t74 l1 (asI (outC y7 0 1)) (asI (outC y7 0 2)) (10 : Int)
   chk (okR zr74 zo74 y8) <|
   let y9 := asB (resC y8 0 0)
   if y9 then
    let y10 := asI (outC y8 0 1)
    let y11 := asI (outC y8 0 2)
    let y12 := t79 l1 y10 y11 (5 : Int)
    chk (okR zr79 zo79 y12) <|
    let y13 := asI (resC y12 0 0)
    let y14 := y13 == (0 : Int)
    if y14 then
     let y15 := asI (outC y12 0 1)
     let y16 := asI (outC y12 0 2)
     let y17 := t79 l1 y15 y16 (7 : Int)
     chk (okR zr79 zo79 y17) <|
     let y18 := w64 ((w64 (n3 + (asI (resC y6 0 0)))) - (1 : Int))
     let y19 := w64 ((asI (resC y7 0 0)) - (1 : Int))
     some ([.agg [.i .i64 (w64 ((asI (resC y17 0 0)) - (1 : Int))), .i .i64 y18, .i .i64 (0 : Int), .i .i64 y19, .s (⟨#[]⟩ : ByteArray)]], [[.l l1, .i .i64 (asI (outC y17 0 1)), .i .i64 (asI (outC y17 0 2))]])
    else
     let y20 := y13 == (1 : Int)
     if y20 then
      let y21 := asI (outC y12 0 1)
      let y22 := asI (outC y12 0 2)
      let y23 := t81 l1 y21 y22 ([[.i .i64 (-1 : Int)], [.i .i64 (0 : Int)], [.i .i64 (100000 : Int)], [.i .i64 (100001 : Int)]] : Rw)
      chk (okR zr81 zo81 y23) <|
      let y24 := w64 ((asI (resC y7 0 0)) - (1 : Int))
      some ([.agg [.i .i64 y2, .i .i64 (asI (resC y23 0 0)), .i .i64 (0 : Int), .i .i64 y24, .s (⟨#[]⟩ : ByteArray)]], [[.l l1, .i .i64 (asI (outC y23 0 1)), .i .i64 (asI (outC y23 0 2))]])
     else
      let y25 := y13 == (2 : Int)
      if y25 then
       let y26 := asI (outC y12 0 1)
       let y27 := asI (outC y12 0 2)
       let y28 := t81 l1 y26 y27 ([[.i .i64 (-1 : Int)], [.i .i64 (0 : Int)], [.i .i64 (100000 : Int)], [.i .i64 (100001 : Int)]] : Rw)
       chk (okR zr81 zo81 y28) <|
       let y29 := w64 ((w64 (n3 + (asI (resC y6 0 0)))) - (1 : Int))
       let y30 := w64 ((asI (resC y7 0 0)) - (1 : Int))
       some ([.agg [.i .i64 y2, .i .i64 y29, .i .i64 (asI (resC y28 0 0)), .i .i64 y30, .s (⟨#[]⟩ : ByteArray)]], [[.l l1, .i .i64 (asI (outC y28 0 1)), .i .i64 (asI (outC y28 0 2))]])
      else
       let y31 := y13 == (3 : Int)
       if y31 then
        let y32 := asI (outC y12 0 1)
        let y33 := asI (outC y12 0 2)
        let y34 := t81 l1 y32 y33 ([[.i .i64 (-2 : Int)], [.i .i64 (-1 : Int)], [.i .i64 (0 : Int)], [.i .i64 (4 : Int)], [.i .i64 (5 : Int)]] : Rw)
        chk (okR zr81 zo81 y34) <|
        let y35 := w64 ((w64 (n3 + (asI (resC y6 0 0)))) - (1 : Int))
        some ([.agg [.i .i64 y2, .i .i64 y35, .i .i64 (0 : Int), .i .i64 (asI (resC y34 0 0)), .s (⟨#[]⟩ : ByteArray)]], [[.l l1, .i .i64 (asI (outC y34 0 1)), .i .i64 (asI (outC y34 0 2))]])
       else
        let y36 := asI (outC y12 0 1)
        let y37 := asI (outC y12 0 2)
        let y38 := t79 l1 y36 y37 (2 : Int)
        chk (okR zr79 zo79 y38) <|
        let y39 := w64 (n5 + (l2.length : Int))
        let y40 := asI (outC y38 0 1)
        let y41 := asI (outC y38 0 2)
        let y42 := w64 ((w64 (n3 + (asI (resC y6 0 0)))) - (1 : Int))
        let y43 := w64 ((asI (resC y7 0 0)) - (1 : Int))
        la80o9 t74 t79 t81 t92 n3 n4 n5 n6 s1 l2 y39 (w64 ((1600 : Int) + (asI (resC y38 0 0)))) y2 y3 y9 y13 y14 y20 y25 y31 l1 y40 y41 n3 n4 n5 n6 s1 l2 (0 : Int) (0 : Int) (0 : Int) (0 : Int) (⟨#[]⟩ : ByteArray) y2 y42 (0 : Int) y43 (⟨#[]⟩ : ByteArray)
         (fun (b1 : Bool) (l3 : Rw) =>
          chk (isBytes l3) <|
          some ([.agg [.i .i64 y2, .i .i64 y42, .i .i64 (0 : Int), .i .i64 y43, .s ⟨(bytesD l3).toArray⟩]], [[.l l1, .i .i64 y40, .i .i64 y41]])) KK SV.undef ([] : Rw)
   else
    let y44 := w64 ((w64 (n3 + (asI (resC y6 0 0)))) - (1 : Int))
    let y45 := w64 ((asI (resC y7 0 0)) - (1 : Int))
    let y46 := asI (outC y8 0 1)
    let y47 := asI (outC y8 0 2)
    some ([.agg [.i .i64 y2, .i .i64 y44, .i .i64 (0 : Int), .i .i64 y45, .s (⟨#[]⟩ : ByteArray)]], [[.l l1, .i .i64 y46, .i .i64 y47]])
  else
   let y48 := y2 == (2 : Int)
   if y48 then
    let y49 := asI (outC y1 0 1)
    let y50 := asI (outC y1 0 2)
    let y51 := t92 l1 y49 y50 (8 : Int)
    chk (okR zr92 zo92 y51) <|
    let y52 := t74 l1 (asI (outC y51 0 1)) (asI (outC y51 0 2)) (10 : Int)
    chk (okR zr74 zo74 y52) <|
    let y53 := asB (resC y52 0 0)
    if y53 then
     let y54 := asI (outC y52 0 1)
     let y55 := asI (outC y52 0 2)
     let y56 := t79 l1 y54 y55 (5 : Int)
     chk (okR zr79 zo79 y56) <|
     let y57 := asI (resC y56 0 0)
     let y58 := y57 == (0 : Int)
     if y58 then
      let y59 := asI (outC y56 0 1)
      let y60 := asI (outC y56 0 2)
      let y61 := t79 l1 y59 y60 (7 : Int)
      chk (okR zr79 zo79 y61) <|
      let y62 := w64 (n5 + (l2.length : Int))
      let y63 := w64 (y62 + (1 : Int))
      let y64 := asS (resC y51 0 0)
      some ([.agg [.i .i64 (w64 ((asI (resC y61 0 0)) - (1 : Int))), .i .i64 n3, .i .i64 y63, .i .i64 (0 : Int), .s y64]], [[.l l1, .i .i64 (asI (outC y61 0 1)), .i .i64 (asI (outC y61 0 2))]])
     else
      let y65 := y57 == (1 : Int)
      if y65 then
       let y66 := asI (outC y56 0 1)
       let y67 := asI (outC y56 0 2)
       let y68 := t81 l1 y66 y67 ([[.i .i64 (-1 : Int)], [.i .i64 (0 : Int)], [.i .i64 (100000 : Int)], [.i .i64 (100001 : Int)]] : Rw)
       chk (okR zr81 zo81 y68) <|
       let y69 := w64 (n5 + (l2.length : Int))
       let y70 := w64 (y69 + (1 : Int))
       let y71 := asS (resC y51 0 0)
       some ([.agg [.i .i64 y2, .i .i64 (asI (resC y68 0 0)), .i .i64 y70, .i .i64 (0 : Int), .s y71]], [[.l l1, .i .i64 (asI (outC y68 0 1)), .i .i64 (asI (outC y68 0 2))]])
      else
       let y72 := y57 == (2 : Int)
       if y72 then
        let y73 := asI (outC y56 0 1)
        let y74 := asI (outC y56 0 2)
        let y75 := t81 l1 y73 y74 ([[.i .i64 (-1 : Int)], [.i .i64 (0 : Int)], [.i .i64 (100000 : Int)], [.i .i64 (100001 : Int)]] : Rw)
        chk (okR zr81 zo81 y75) <|
        let y76 := asS (resC y51 0 0)
        some ([.agg [.i .i64 y2, .i .i64 n3, .i .i64 (asI (resC y75 0 0)), .i .i64 (0 : Int), .s y76]], [[.l l1, .i .i64 (asI (outC y75 0 1)), .i .i64 (asI (outC y75 0 2))]])
       else
        let y77 := y57 == (3 : Int)
        if y77 then
         let y78 := asI (outC y56 0 1)
         let y79 := asI (outC y56 0 2)
         let y80 := t81 l1 y78 y79 ([[.i .i64 (-2 : Int)], [.i .i64 (-1 : Int)], [.i .i64 (0 : Int)], [.i .i64 (4 : Int)], [.i .i64 (5 : Int)]] : Rw)
         chk (okR zr81 zo81 y80) <|
         let y81 := w64 (n5 + (l2.length : Int))
         let y82 := w64 (y81 + (1 : Int))
         let y83 := asS (resC y51 0 0)
         some ([.agg [.i .i64 y2, .i .i64 n3, .i .i64 y82, .i .i64 (asI (resC y80 0 0)), .s y83]], [[.l l1, .i .i64 (asI (outC y80 0 1)), .i .i64 (asI (outC y80 0 2))]])
        else
         let y84 := asI (outC y56 0 1)
         let y85 := asI (outC y56 0 2)
         let y86 := t79 l1 y84 y85 (2 : Int)
         chk (okR zr79 zo79 y86) <|
         let y87 := w64 (n5 + (l2.length : Int))
         let y88 := asI (outC y86 0 1)
         let y89 := asI (outC y86 0 2)
         let y90 := w64 (y87 + (1 : Int))
         let y91 := asS (resC y51 0 0)
         la80o100009 t74 t79 t81 t92 n3 n4 n5 n6 s1 l2 y87 (w64 ((1600 : Int) + (asI (resC y86 0 0)))) y2 y3 y48 y53 y57 y58 y65 y72 y77 l1 y88 y89 n3 n4 n5 n6 s1 l2 (0 : Int) (0 : Int) (0 : Int) (0 : Int) (⟨#[]⟩ : ByteArray) y2 n3 y90 (0 : Int) y91
          (fun (b2 : Bool) (l4 : Rw) =>
           chk (isBytes l4) <|
           some ([.agg [.i .i64 y2, .i .i64 n3, .i .i64 y90, .i .i64 (0 : Int), .s ⟨(bytesD l4).toArray⟩]], [[.l l1, .i .i64 y88, .i .i64 y89]])) KK SV.undef ([] : Rw)
    else
     let y92 := w64 (n5 + (l2.length : Int))
     let y93 := w64 (y92 + (1 : Int))
     let y94 := asS (resC y51 0 0)
     let y95 := asI (outC y52 0 1)
     let y96 := asI (outC y52 0 2)
     some ([.agg [.i .i64 y2, .i .i64 n3, .i .i64 y93, .i .i64 (0 : Int), .s y94]], [[.l l1, .i .i64 y95, .i .i64 y96]])
   else
    let k2 := fun (b3 : Bool) (n7 n8 n9 : Int) (s2 : ByteArray) =>
     let y97 := t74 l1 n7 n8 (10 : Int)
     chk (okR zr74 zo74 y97) <|
     let y98 := asB (resC y97 0 0)
     if y98 then
      let y99 := asI (outC y97 0 1)
      let y100 := asI (outC y97 0 2)
      let y101 := t79 l1 y99 y100 (5 : Int)
      chk (okR zr79 zo79 y101) <|
      let y102 := asI (resC y101 0 0)
      let y103 := y102 == (0 : Int)
      if y103 then
       let y104 := asI (outC y101 0 1)
       let y105 := asI (outC y101 0 2)
       let y106 := t79 l1 y104 y105 (7 : Int)
       chk (okR zr79 zo79 y106) <|
       let y107 := asI (outC y1 0 1)
       let y108 := asI (outC y1 0 2)
       let y109 := t79 l1 y107 y108 (w64 ((l2.length : Int) + (3 : Int)))
       let y110 := w64 (n5 + (asI (resC y109 0 0)))
       some ([.agg [.i .i64 (w64 ((asI (resC y106 0 0)) - (1 : Int))), .i .i64 n9, .i .i64 y110, .i .i64 (0 : Int), .s s2]], [[.l l1, .i .i64 (asI (outC y106 0 1)), .i .i64 (asI (outC y106 0 2))]])
      else
       let y111 := y102 == (1 : Int)
       if y111 then
        let y112 := asI (outC y101 0 1)
        let y113 := asI (outC y101 0 2)
        let y114 := t81 l1 y112 y113 ([[.i .i64 (-1 : Int)], [.i .i64 (0 : Int)], [.i .i64 (100000 : Int)], [.i .i64 (100001 : Int)]] : Rw)
        chk (okR zr81 zo81 y114) <|
        let y115 := asI (outC y1 0 1)
        let y116 := asI (outC y1 0 2)
        let y117 := t79 l1 y115 y116 (w64 ((l2.length : Int) + (3 : Int)))
        let y118 := w64 (n5 + (asI (resC y117 0 0)))
        some ([.agg [.i .i64 y2, .i .i64 (asI (resC y114 0 0)), .i .i64 y118, .i .i64 (0 : Int), .s s2]], [[.l l1, .i .i64 (asI (outC y114 0 1)), .i .i64 (asI (outC y114 0 2))]])
       else
        let y119 := y102 == (2 : Int)
        if y119 then
         let y120 := asI (outC y101 0 1)
         let y121 := asI (outC y101 0 2)
         let y122 := t81 l1 y120 y121 ([[.i .i64 (-1 : Int)], [.i .i64 (0 : Int)], [.i .i64 (100000 : Int)], [.i .i64 (100001 : Int)]] : Rw)
         chk (okR zr81 zo81 y122) <|
         some ([.agg [.i .i64 y2, .i .i64 n9, .i .i64 (asI (resC y122 0 0)), .i .i64 (0 : Int), .s s2]], [[.l l1, .i .i64 (asI (outC y122 0 1)), .i .i64 (asI (outC y122 0 2))]])
        else
         let y123 := y102 == (3 : Int)
         if y123 then
          let y124 := asI (outC y101 0 1)
          let y125 := asI (outC y101 0 2)
          let y126 := t81 l1 y124 y125 ([[.i .i64 (-2 : Int)], [.i .i64 (-1 : Int)], [.i .i64 (0 : Int)], [.i .i64 (4 : Int)], [.i .i64 (5 : Int)]] : Rw)
          chk (okR zr81 zo81 y126) <|
          let y127 := asI (outC y1 0 1)
          let y128 := asI (outC y1 0 2)
          let y129 := t79 l1 y127 y128 (w64 ((l2.length : Int) + (3 : Int)))
          let y130 := w64 (n5 + (asI (resC y129 0 0)))
          some ([.agg [.i .i64 y2, .i .i64 n9, .i .i64 y130, .i .i64 (asI (resC y126 0 0)), .s s2]], [[.l l1, .i .i64 (asI (outC y126 0 1)), .i .i64 (asI (outC y126 0 2))]])
         else
          let y131 := asI (outC y101 0 1)
          let y132 := asI (outC y101 0 2)
          let y133 := t79 l1 y131 y132 (2 : Int)
          chk (okR zr79 zo79 y133) <|
          let y134 := w64 (n5 + (l2.length : Int))
          let y135 := asI (outC y1 0 1)
          let y136 := asI (outC y1 0 2)
          let y137 := t79 l1 y135 y136 (w64 ((l2.length : Int) + (3 : Int)))
          let y138 := w64 (n5 + (asI (resC y137 0 0)))
          let y139 := w64 (y138 - n5)
          let y140 := y2 == (3 : Int)
          let y141 := asI (outC y133 0 1)
          let y142 := asI (outC y133 0 2)
          la80o200009 t74 t79 t81 t92 n3 n4 n5 n6 s1 l2 y134 y139 (w64 ((1600 : Int) + (asI (resC y133 0 0)))) y2 b3 y3 y48 y140 y98 y102 y103 y111 y119 y123 l1 y141 y142 n3 n4 n5 n6 s1 l2 (0 : Int) (0 : Int) (0 : Int) (0 : Int) (⟨#[]⟩ : ByteArray) y2 n9 y138 (0 : Int) s2
           (fun (b4 : Bool) (l5 : Rw) =>
            chk (isBytes l5) <|
            some ([.agg [.i .i64 y2, .i .i64 n9, .i .i64 y138, .i .i64 (0 : Int), .s ⟨(bytesD l5).toArray⟩]], [[.l l1, .i .i64 y141, .i .i64 y142]])) KK SV.undef ([] : Rw)
     else
      let y143 := asI (outC y1 0 1)
      let y144 := asI (outC y1 0 2)
      let y145 := t79 l1 y143 y144 (w64 ((l2.length : Int) + (3 : Int)))
      let y146 := w64 (n5 + (asI (resC y145 0 0)))
      let y147 := asI (outC y97 0 1)
      let y148 := asI (outC y97 0 2)
      some ([.agg [.i .i64 y2, .i .i64 n9, .i .i64 y146, .i .i64 (0 : Int), .s s2]], [[.l l1, .i .i64 y147, .i .i64 y148]])
    let y149 := y2 == (3 : Int)
    if y149 then
     let y150 := asI (outC y1 0 1)
     let y151 := asI (outC y1 0 2)
     let y152 := t79 l1 y150 y151 (w64 ((l2.length : Int) + (2 : Int)))
     chk (okR zr79 zo79 y152) <|
     let y153 := t74 l1 (asI (outC y152 0 1)) (asI (outC y152 0 2)) (10 : Int)
     chk (okR zr74 zo74 y153) <|
     let y154 := asB (resC y153 0 0)
     if y154 then
      let y155 := asI (outC y153 0 1)
      let y156 := asI (outC y153 0 2)
      let y157 := t79 l1 y155 y156 (5 : Int)
      chk (okR zr79 zo79 y157) <|
      let y158 := asI (resC y157 0 0)
      let y159 := y158 == (0 : Int)
      if y159 then
       let y160 := asI (outC y157 0 1)
       let y161 := asI (outC y157 0 2)
       let y162 := t79 l1 y160 y161 (7 : Int)
       chk (okR zr79 zo79 y162) <|
       let y163 := w64 (n5 + (asI (resC y152 0 0)))
       some ([.agg [.i .i64 (w64 ((asI (resC y162 0 0)) - (1 : Int))), .i .i64 (0 : Int), .i .i64 y163, .i .i64 (0 : Int), .s (⟨#[]⟩ : ByteArray)]], [[.l l1, .i .i64 (asI (outC y162 0 1)), .i .i64 (asI (outC y162 0 2))]])
      else
       let y164 := y158 == (1 : Int)
       if y164 then
        let y165 := asI (outC y157 0 1)
        let y166 := asI (outC y157 0 2)
        let y167 := t81 l1 y165 y166 ([[.i .i64 (-1 : Int)], [.i .i64 (0 : Int)], [.i .i64 (100000 : Int)], [.i .i64 (100001 : Int)]] : Rw)
        chk (okR zr81 zo81 y167) <|
        let y168 := w64 (n5 + (asI (resC y152 0 0)))
        some ([.agg [.i .i64 y2, .i .i64 (asI (resC y167 0 0)), .i .i64 y168, .i .i64 (0 : Int), .s (⟨#[]⟩ : ByteArray)]], [[.l l1, .i .i64 (asI (outC y167 0 1)), .i .i64 (asI (outC y167 0 2))]])
       else
        let y169 := y158 == (2 : Int)
        if y169 then
         let y170 := asI (outC y157 0 1)
         let y171 := asI (outC y157 0 2)
         let y172 := t81 l1 y170 y171 ([[.i .i64 (-1 : Int)], [.i .i64 (0 : Int)], [.i .i64 (100000 : Int)], [.i .i64 (100001 : Int)]] : Rw)
         chk (okR zr81 zo81 y172) <|
         some ([.agg [.i .i64 y2, .i .i64 (0 : Int), .i .i64 (asI (resC y172 0 0)), .i .i64 (0 : Int), .s (⟨#[]⟩ : ByteArray)]], [[.l l1, .i .i64 (asI (outC y172 0 1)), .i .i64 (asI (outC y172 0 2))]])
        else
         let y173 := y158 == (3 : Int)
         if y173 then
          let y174 := asI (outC y157 0 1)
          let y175 := asI (outC y157 0 2)
          let y176 := t81 l1 y174 y175 ([[.i .i64 (-2 : Int)], [.i .i64 (-1 : Int)], [.i .i64 (0 : Int)], [.i .i64 (4 : Int)], [.i .i64 (5 : Int)]] : Rw)
          chk (okR zr81 zo81 y176) <|
          let y177 := w64 (n5 + (asI (resC y152 0 0)))
          some ([.agg [.i .i64 y2, .i .i64 (0 : Int), .i .i64 y177, .i .i64 (asI (resC y176 0 0)), .s (⟨#[]⟩ : ByteArray)]], [[.l l1, .i .i64 (asI (outC y176 0 1)), .i .i64 (asI (outC y176 0 2))]])
         else
          let y178 := asI (outC y157 0 1)
          let y179 := asI (outC y157 0 2)
          let y180 := t79 l1 y178 y179 (2 : Int)
          chk (okR zr79 zo79 y180) <|
          let y181 := w64 (n5 + (l2.length : Int))
          let y182 := asI (outC y180 0 1)
          let y183 := asI (outC y180 0 2)
          let y184 := w64 (n5 + (asI (resC y152 0 0)))
          la80o300009 t74 t79 t81 t92 n3 n4 n5 n6 s1 l2 y181 (w64 ((1600 : Int) + (asI (resC y180 0 0)))) y2 y3 y48 y149 y154 y158 y159 y164 y169 y173 l1 y182 y183 n3 n4 n5 n6 s1 l2 (0 : Int) (0 : Int) (0 : Int) (0 : Int) (⟨#[]⟩ : ByteArray) y2 (0 : Int) y184 (0 : Int) (⟨#[]⟩ : ByteArray)
           (fun (b5 : Bool) (l6 : Rw) =>
            chk (isBytes l6) <|
            some ([.agg [.i .i64 y2, .i .i64 (0 : Int), .i .i64 y184, .i .i64 (0 : Int), .s ⟨(bytesD l6).toArray⟩]], [[.l l1, .i .i64 y182, .i .i64 y183]])) KK SV.undef ([] : Rw)
     else
      let y185 := w64 (n5 + (asI (resC y152 0 0)))
      let y186 := asI (outC y153 0 1)
      let y187 := asI (outC y153 0 2)
      some ([.agg [.i .i64 y2, .i .i64 (0 : Int), .i .i64 y185, .i .i64 (0 : Int), .s (⟨#[]⟩ : ByteArray)]], [[.l l1, .i .i64 y186, .i .i64 y187]])
    else
     let y188 := asI (outC y1 0 1)
     let y189 := asI (outC y1 0 2)
     let y190 := t79 l1 y188 y189 (w64 ((l2.length : Int) + (3 : Int)))
     chk (okR zr79 zo79 y190) <|
     let y191 := t79 l1 (asI (outC y190 0 1)) (asI (outC y190 0 2)) (8 : Int)
     chk (okR zr79 zo79 y191) <|
     let y192 := w64 (n5 + (asI (resC y190 0 0)))
     let y193 := w64 (y192 - n5)
     let y194 := (decide (y193 ≥ (1 : Int))) && (decide (y193 ≤ (l2.length : Int)))
     if y194 then
      let y195 := asI (outC y191 0 1)
      let y196 := asI (outC y191 0 2)
      let y197 := t74 l1 y195 y196 (2 : Int)
      chk (okR zr74 zo74 y197) <|
      let k1 := fun (n10 : Int) =>
       let y198 := t92 l1 (asI (outC y197 0 1)) (asI (outC y197 0 2)) (8 : Int)
       chk (okR zr92 zo92 y198) <|
       let y199 := y194 && (asB (resC y197 0 0))
       k2 y199 (asI (outC y198 0 1)) (asI (outC y198 0 2)) n10 (asS (resC y198 0 0))
      let y200 := y194 && (asB (resC y197 0 0))
      if y200 then
       let y201 := w64 (y193 - (1 : Int))
       let y202 := l2.getD y201.toNat []
       chk (decide (0 ≤ y201) && decide (y201 < l2.length) && isRow z90 y202) <|
       k1 (asI (nthD y202 0))
      else
       let y203 := w64 ((1 : Int) + (asI (resC y191 0 0)))
       k1 y203
     else
      chk (!y194) <|
      let y204 := asI (outC y191 0 1)
      let y205 := asI (outC y191 0 2)
      let y206 := t92 l1 y204 y205 (8 : Int)
      chk (okR zr92 zo92 y206) <|
      let y207 := w64 ((1 : Int) + (asI (resC y191 0 0)))
      k2 false (asI (outC y206 0 1)) (asI (outC y206 0 2)) y207 (asS (resC y206 0 0))
def t80 : Y80 := ta80 t74 t79 t81 t92
def zr80 : List DV := [.agg [.i .i64 0, .i .i64 0, .i .i64 0, .i .i64 0, .s ⟨#[]⟩]]
def zo80 : Rw := [[.l [], .i .i64 0, .i .i64 0]]
def A80 : List TA := [.ptr [.l, .i .i64, .i .i64], .agg [.i .i64, .i .i64, .i .i64, .i .i64, .s, .l]]
abbrev Y53 := Int → Int → Int → Int → ByteArray → Rw → Rs
def t53 (n1 n2 n3 n4 : Int) (s1 : ByteArray) (l1 : Rw) : Rs :=
  chk ((flatR 2 l1) && decide (([] : Rw).length + l1.length ≤ lim)) <|
  some ([.agg [.i .i64 n1, .i .i64 n2, .i .i64 n3, .i .i64 n4, .s s1, .l (([] : Rw) ++ l1)]], [])
def zr53 : List DV := [.agg [.i .i64 0, .i .i64 0, .i .i64 0, .i .i64 0, .s ⟨#[]⟩, .l []]]
def zo53 : Rw := []
def A53 : List TA := [.agg [.i .i64, .i .i64, .i .i64, .i .i64, .s, .l]]
abbrev Y83 := Int → Int → Int → Rs
def t83 (n1 n2 n3 : Int) : Rs :=
  some ([.one (.b ((decide (n1 ≥ n2)) && (decide (n1 ≤ n3))))], [])
def zr83 : List DV := [.one (.b false)]
def zo83 : Rw := []
def A83 : List TA := [.one (.i .i64), .one (.i .i64), .one (.i .i64)]
abbrev Y85 := Int → Int → Int → Int → ByteArray → Rs
def ta85 (t83 : Y83) (n1 n2 n3 n4 : Int) (s1 : ByteArray) : Rs :=
  if n1 == (1 : Int) then
   let y1 := t83 n2 (0 : Int) (100000 : Int)
   chk (okR zr83 zo83 y1) <|
   let y2 := t83 n4 (-1 : Int) (4 : Int)
   let y3 := asB (resC y1 0 0)
   chk ((okR zr83 zo83 y2) || !y3) <|
   some ([.one (.b (((y3 && (asB (resC y2 0 0))) && (n3 == (0 : Int))) && (s1.toList == (⟨#[]⟩ : ByteArray).toList)))], [])
  else
   if n1 == (2 : Int) then
    let y4 := t83 n2 (1 : Int) (100000 : Int)
    chk (okR zr83 zo83 y4) <|
    let y5 := t83 n3 (1 : Int) (100000 : Int)
    let y6 := asB (resC y4 0 0)
    chk ((okR zr83 zo83 y5) || !y6) <|
    some ([.one (.b (((y6 && (asB (resC y5 0 0))) && (n4 == (0 : Int))) && (decide ((s1.size : Int) ≤ (1600 : Int)))))], [])
   else
    if n1 == (3 : Int) then
     let y7 := t83 n3 (1 : Int) (100000 : Int)
     let y8 := n2 == (0 : Int)
     chk ((okR zr83 zo83 y7) || !y8) <|
     some ([.one (.b (((y8 && (asB (resC y7 0 0))) && (n4 == (0 : Int))) && (s1.toList == (⟨#[]⟩ : ByteArray).toList)))], [])
    else
     if n1 == (4 : Int) then
      let y9 := t83 n2 (1 : Int) (100000 : Int)
      chk (okR zr83 zo83 y9) <|
      let y10 := t83 n3 (1 : Int) (100000 : Int)
      let y11 := asB (resC y9 0 0)
      chk ((okR zr83 zo83 y10) || !y11) <|
      some ([.one (.b (((y11 && (asB (resC y10 0 0))) && (n4 == (0 : Int))) && (decide ((s1.size : Int) ≤ (20000 : Int)))))], [])
     else
      some ([.one (.b false)], [])
def t85 : Y85 := ta85 t83
def zr85 : List DV := [.one (.b false)]
def zo85 : Rw := []
def A85 : List TA := [.agg [.i .i64, .i .i64, .i .i64, .i .i64, .s]]
abbrev Y94 := Int → Int → Int → Int → ByteArray → Rw → Rs
def t94 (n1 n2 n3 n4 : Int) (s1 : ByteArray) (l1 : Rw) : Rs :=
  if (l1.length : Int) == (0 : Int) then
   some ([.one (.i .i64 n4)], [])
  else
   let y1 := w64 ((l1.length : Int) - (1 : Int))
   let y2 := l1.getD y1.toNat []
   chk (decide (0 ≤ y1) && decide (y1 < l1.length) && isRow z90 y2) <|
   some ([.one (.i .i64 (asI (nthD y2 0)))], [])
def zr94 : List DV := [.one (.i .i64 0)]
def zo94 : Rw := []
def A94 : List TA := [.agg [.i .i64, .i .i64, .i .i64, .i .i64, .s, .l]]
abbrev Y86 := Int → Int → Int → Int → ByteArray → Rw → Int → Int → Int → Int → ByteArray → Rs
def ta86 (t94 : Y94) (n1 n2 n3 n4 : Int) (s1 : ByteArray) (l1 : Rw) (n5 n6 n7 n8 : Int) (s2 : ByteArray) : Rs :=
  if n5 == (1 : Int) then
   some ([.one (.b ((decide (n6 > n1)) || ((n6 == n1) && ((n2 == (-1 : Int)) || (n8 == n2)))))], [])
  else
   if n5 == (2 : Int) then
    let y1 := t94 n1 n2 n3 n4 s1 l1
    let y2 := w64 (n3 + (l1.length : Int))
    let y3 := (n7 == (w64 (y2 + (1 : Int)))) && (decide ((l1.length : Int) < (60 : Int)))
    chk ((okR zr94 zo94 y1) || !y3) <|
    some ([.one (.b ((y3 && (decide (n6 ≥ (asI (resC y1 0 0))))) && (decide (n6 ≤ n1))))], [])
   else
    if n5 == (3 : Int) then
     let y4 := w64 (n3 + (l1.length : Int))
     some ([.one (.b ((decide (n7 > n3)) && (decide (n7 ≤ y4))))], [])
    else
     if n5 == (4 : Int) then
      some ([.one (.b ((decide (n7 > n3)) && (decide (n6 ≤ n1))))], [])
     else
      some ([.one (.b false)], [])
def t86 : Y86 := ta86 t94
def zr86 : List DV := [.one (.b false)]
def zo86 : Rw := []
def A86 : List TA := [.agg [.i .i64, .i .i64, .i .i64, .i .i64, .s, .l], .agg [.i .i64, .i .i64, .i .i64, .i .i64, .s]]
abbrev Y65 := Int → Int → Int → Int → ByteArray → Rw → Int → Int → Rs
def t65 (n1 n2 n3 n4 : Int) (s1 : ByteArray) (l1 : Rw) (n5 n6 : Int) : Rs :=
  let y1 := w64 (n5 - n3)
  let y2 := w64 (y1 - (1 : Int))
  let y3 := l1.getD y2.toNat []
  let y4 := (decide (y1 ≥ (1 : Int))) && (decide (y1 ≤ (l1.length : Int)))
  chk ((decide (0 ≤ y2) && decide (y2 < l1.length) && isRow z90 y3) || !y4) <|
  if y4 && ((asI (nthD y3 0)) == n6) then
   chk (decide (0 ≤ y1 ∧ y1 ≤ l1.length ∧ (l1.getD 0 z90).length = z90.length)) <|
   let y5 := l1.drop y1.toNat
   chk ((flatR 2 y5) && decide (([] : Rw).length + y5.length ≤ lim)) <|
   some ([.one (.l (([] : Rw) ++ y5))], [])
  else
   some ([.one (.l ([] : Rw))], [])
def zr65 : List DV := [.one (.l [])]
def zo65 : Rw := []
def A65 : List TA := [.agg [.i .i64, .i .i64, .i .i64, .i .i64, .s, .l], .one (.i .i64), .one (.i .i64)]
abbrev Y52 := Int → Int → Int → Int → ByteArray → Rw → Int → Int → Int → Int → ByteArray → Rs
def ta52 (t65 : Y65) (t85 : Y85) (t86 : Y86) (n1 n2 n3 n4 : Int) (s1 : ByteArray) (l1 : Rw) (n5 n6 n7 n8 : Int) (s2 : ByteArray) : Rs :=
  let y1 := t85 n5 n6 n7 n8 s2
  chk (okR zr85 zo85 y1) <|
  let y2 := t86 n1 n2 n3 n4 s1 l1 n5 n6 n7 n8 s2
  let y3 := !(asB (resC y1 0 0))
  chk ((okR zr86 zo86 y2) || !(!y3)) <|
  if y3 || (!(asB (resC y2 0 0))) then
   some ([.agg [.i .i64 n1, .i .i64 n2, .i .i64 n3, .i .i64 n4, .s s1, .l l1], .one (.b false)], [])
  else
   if n5 == (1 : Int) then
    some ([.agg [.i .i64 n6, .i .i64 n8, .i .i64 n3, .i .i64 n4, .s s1, .l l1], .one (.b true)], [])
   else
    if n5 == (2 : Int) then
     let y4 := ([[.i .i64 n6, .s s2]] : Rw)
     chk ((flatR 2 y4) && decide (l1.length + y4.length ≤ lim)) <|
     some ([.agg [.i .i64 n1, .i .i64 n2, .i .i64 n3, .i .i64 n4, .s s1, .l (l1 ++ y4)], .one (.b true)], [])
    else
     if n5 == (3 : Int) then
      let y5 := w64 ((w64 (n7 - n3)) - (1 : Int))
      chk (decide (0 ≤ y5 ∧ y5 ≤ l1.length)) <|
      some ([.agg [.i .i64 n1, .i .i64 n2, .i .i64 n3, .i .i64 n4, .s s1, .l (l1.take y5.toNat)], .one (.b true)], [])
     else
      let y6 := t65 n1 n2 n3 n4 s1 l1 n7 n6
      chk (okR zr65 zo65 y6) <|
      some ([.agg [.i .i64 n1, .i .i64 n2, .i .i64 n7, .i .i64 n6, .s s2, .l (asL (resC y6 0 0))], .one (.b true)], [])
def t52 : Y52 := ta52 t65 t85 t86
def zr52 : List DV := [.agg [.i .i64 0, .i .i64 0, .i .i64 0, .i .i64 0, .s ⟨#[]⟩, .l []], .one (.b false)]
def zo52 : Rw := []
def A52 : List TA := [.agg [.i .i64, .i .i64, .i .i64, .i .i64, .s, .l], .agg [.i .i64, .i .i64, .i .i64, .i .i64, .s]]
abbrev Y78 := Rw → Int → Int → Rs
def la78o10000000 (t52 : Y52) (t53 : Y53) (t73 : Y73) (t74 : Y74) (t79 : Y79) (t80 : Y80) (q1 : Int → SV → Bool → SV → Rw → Int → Int → Int → Int → Int → Int → ByteArray → Int → Int → Int → Int → ByteArray → Int → Int → Int → Int → ByteArray → Rw → Rw → Rs) (q2 : Int → Bool → Bool → Bool → Rw → Int → Int → Int → Int → Int → Int → ByteArray → Int → Int → Int → Int → ByteArray → Int → Int → Int → Int → ByteArray → Rw → Rw → Rw → Rs) : Nat → Int → Bool → Bool → Bool → Rw → Int → Int → Int → Int → Int → Int → ByteArray → Int → Int → Int → Int → ByteArray → Int → Int → Int → Int → ByteArray → Rw → Rw → Rw → Rs
  | 0, _, _, _, _, _, _, _, _, _, _, _, _, _, _, _, _, _, _, _, _, _, _, _, _, _ => none
  | m + 1, n1, b1, b2, b3, l1, n2, n3, n4, n5, n6, n7, s1, n8, n9, n10, n11, s2, n12, n13, n14, n15, s3, l2, l3, l4 =>
    let y1 := decide (n1 > (0 : Int))
    if y1 then
     let y2 := t80 l1 n2 n3 n12 n13 n14 n15 s3 l4
     chk (okR zr80 zo80 y2) <|
     let y3 := t53 n12 n13 n14 n15 s3 l4
     chk (okR zr53 zo53 y3) <|
     let y4 := asI (resC y2 0 0)
     let y5 := asI (resC y2 0 1)
     let y6 := asI (resC y2 0 2)
     let y7 := asI (resC y2 0 3)
     let y8 := asS (resC y2 0 4)
     let y9 := t52 (asI (resC y3 0 0)) (asI (resC y3 0 1)) (asI (resC y3 0 2)) (asI (resC y3 0 3)) (asS (resC y3 0 4)) (asL (resC y3 0 5)) y4 y5 y6 y7 y8
     chk (okR zr52 zo52 y9) <|
     let y10 := asB (resC y9 1 0)
     if !y10 then
      let y11 := asI (outC y2 0 1)
      let y12 := asI (outC y2 0 2)
      let y13 := t74 l1 y11 y12 (25 : Int)
      chk (okR zr74 zo74 y13) <|
      let y14 := y10 || (asB (resC y13 0 0))
      if y14 then
       let y15 := ([[.i .i64 y4, .i .i64 y5, .i .i64 y6, .i .i64 y7, .s y8]] : Rw)
       chk ((flatR 5 y15) && decide (l3.length + y15.length ≤ lim)) <|
       let y16 := asI (outC y13 0 1)
       let y17 := asI (outC y13 0 2)
       let y18 := asI (resC y9 0 0)
       let y19 := asI (resC y9 0 1)
       let y20 := asI (resC y9 0 2)
       let y21 := asI (resC y9 0 3)
       let y22 := asS (resC y9 0 4)
       let y23 := asL (resC y9 0 5)
       la78o10000000 t52 t53 t73 t74 t79 t80 q1 q2 m (w64 (n1 - (1 : Int))) y10 y1 y14 l1 y16 y17 n4 n5 n6 n7 s1 n8 n9 n10 n11 s2 y18 y19 y20 y21 y22 l2 (l3 ++ y15) y23
      else
       let y24 := asI (outC y13 0 1)
       let y25 := asI (outC y13 0 2)
       la78o10000000 t52 t53 t73 t74 t79 t80 q1 q2 m (w64 (n1 - (1 : Int))) y10 y1 y14 l1 y24 y25 n4 n5 n6 n7 s1 n8 n9 n10 n11 s2 n12 n13 n14 n15 s3 l2 l3 l4
     else
      chk (y10) <|
      let y26 := ([[.i .i64 y4, .i .i64 y5, .i .i64 y6, .i .i64 y7, .s y8]] : Rw)
      chk ((flatR 5 y26) && decide (l3.length + y26.length ≤ lim)) <|
      let y27 := asI (outC y2 0 1)
      let y28 := asI (outC y2 0 2)
      let y29 := asI (resC y9 0 0)
      let y30 := asI (resC y9 0 1)
      let y31 := asI (resC y9 0 2)
      let y32 := asI (resC y9 0 3)
      let y33 := asS (resC y9 0 4)
      let y34 := asL (resC y9 0 5)
      la78o10000000 t52 t53 t73 t74 t79 t80 q1 q2 m (w64 (n1 - (1 : Int))) y10 y1 true l1 y27 y28 n4 n5 n6 n7 s1 n8 n9 n10 n11 s2 y29 y30 y31 y32 y33 l2 (l3 ++ y26) y34
    else
     q2 n1 b1 y1 b3 l1 n2 n3 n4 n5 n6 n7 s1 n8 n9 n10 n11 s2 n12 n13 n14 n15 s3 l2 l3 l4
def la78o0 (t52 : Y52) (t53 : Y53) (t73 : Y73) (t74 : Y74) (t79 : Y79) (t80 : Y80) (q1 : Int → SV → Bool → SV → Rw → Int → Int → Int → Int → Int → Int → ByteArray → Int → Int → Int → Int → ByteArray → Int → Int → Int → Int → ByteArray → Rw → Rw → Rs) (q2 : Int → Bool → Bool → Bool → Rw → Int → Int → Int → Int → Int → Int → ByteArray → Int → Int → Int → Int → ByteArray → Int → Int → Int → Int → ByteArray → Rw → Rw → Rw → Rs) : Nat → Int → SV → SV → SV → Rw → Int → Int → Int → Int → Int → Int → ByteArray → Int → Int → Int → Int → ByteArray → Int → Int → Int → Int → ByteArray → Rw → Rw → Rs
  | 0, _, _, _, _, _, _, _, _, _, _, _, _, _, _, _, _, _, _, _, _, _, _, _, _ => none
  | m + 1, n1, v1, v2, v3, l1, n2, n3, n4, n5, n6, n7, s1, n8, n9, n10, n11, s2, n12, n13, n14, n15, s3, l2, l3 =>
    let y1 := decide (n1 > (0 : Int))
    if y1 then
     let y2 := t80 l1 n2 n3 n12 n13 n14 n15 s3 l2
     chk (okR zr80 zo80 y2) <|
     let y3 := t53 n12 n13 n14 n15 s3 l2
     chk (okR zr53 zo53 y3) <|
     let y4 := asI (resC y2 0 0)
     let y5 := asI (resC y2 0 1)
     let y6 := asI (resC y2 0 2)
     let y7 := asI (resC y2 0 3)
     let y8 := asS (resC y2 0 4)
     let y9 := t52 (asI (resC y3 0 0)) (asI (resC y3 0 1)) (asI (resC y3 0 2)) (asI (resC y3 0 3)) (asS (resC y3 0 4)) (asL (resC y3 0 5)) y4 y5 y6 y7 y8
     chk (okR zr52 zo52 y9) <|
     let y10 := asB (resC y9 1 0)
     if !y10 then
      let y11 := asI (outC y2 0 1)
      let y12 := asI (outC y2 0 2)
      let y13 := t74 l1 y11 y12 (25 : Int)
      chk (okR zr74 zo74 y13) <|
      let y14 := y10 || (asB (resC y13 0 0))
      if y14 then
       let y15 := ([[.i .i64 y4, .i .i64 y5, .i .i64 y6, .i .i64 y7, .s y8]] : Rw)
       chk ((flatR 5 y15) && decide (l3.length + y15.length ≤ lim)) <|
       let y16 := asI (outC y13 0 1)
       let y17 := asI (outC y13 0 2)
       let y18 := asI (resC y9 0 0)
       let y19 := asI (resC y9 0 1)
       let y20 := asI (resC y9 0 2)
       let y21 := asI (resC y9 0 3)
       let y22 := asS (resC y9 0 4)
       let y23 := asL (resC y9 0 5)
       la78o10000000 t52 t53 t73 t74 t79 t80 q1 q2 m (w64 (n1 - (1 : Int))) y10 y1 y14 l1 y16 y17 n4 n5 n6 n7 s1 n8 n9 n10 n11 s2 y18 y19 y20 y21 y22 l2 (l3 ++ y15) y23
      else
       let y24 := asI (outC y13 0 1)
       let y25 := asI (outC y13 0 2)
       la78o0 t52 t53 t73 t74 t79 t80 q1 q2 m (w64 (n1 - (1 : Int))) (.d (.b y10)) (.d (.b y1)) (.d (.b y14)) l1 y24 y25 n4 n5 n6 n7 s1 n8 n9 n10 n11 s2 n12 n13 n14 n15 s3 l2 l3
     else
      chk (y10) <|
      let y26 := ([[.i .i64 y4, .i .i64 y5, .i .i64 y6, .i .i64 y7, .s y8]] : Rw)
      chk ((flatR 5 y26) && decide (l3.length + y26.length ≤ lim)) <|
      let y27 := asI (outC y2 0 1)
      let y28 := asI (outC y2 0 2)
      let y29 := asI (resC y9 0 0)
      let y30 := asI (resC y9 0 1)
      let y31 := asI (resC y9 0 2)
      let y32 := asI (resC y9 0 3)
      let y33 := asS (resC y9 0 4)
      let y34 := asL (resC y9 0 5)
      la78o10000000 t52 t53 t73 t74 t79 t80 q1 q2 m (w64 (n1 - (1 : Int))) y10 y1 true l1 y27 y28 n4 n5 n6 n7 s1 n8 n9 n10 n11 s2 y29 y30 y31 y32 y33 l2 (l3 ++ y26) y34
    else
     q1 n1 (keepV [0, 128, 192, 256, 12294, 12295, 16390] v1) y1 (keepV [0, 128, 192, 256, 12294, 12295, 16390] v3) l1 n2 n3 n4 n5 n6 n7 s1 n8 n9 n10 n11 s2 n12 n13 n14 n15 s3 l2 l3
def ta78 (t52 : Y52) (t53 : Y53) (t73 : Y73) (t74 : Y74) (t79 : Y79) (t80 : Y80) (l1 : Rw) (n1 n2 : Int) : Rs :=
  let y1 := t73 l1 n1 n2
  chk (okR zr73 zo73 y1) <|
  let y2 := t79 l1 (asI (outC y1 0 1)) (asI (outC y1 0 2)) (6 : Int)
  chk (okR zr79 zo79 y2) <|
  let y3 := asI (resC y1 0 0)
  let y4 := asI (resC y1 0 1)
  let y5 := asI (resC y1 0 2)
  let y6 := asI (resC y1 0 3)
  let y7 := asS (resC y1 0 4)
  la78o0 t52 t53 t73 t74 t79 t80
   (fun (n3 : Int) (v1 : SV) (b1 : Bool) (v2 : SV) (l2 : Rw) (n4 n5 n6 n7 n8 n9 : Int) (s1 : ByteArray) (n10 n11 n12 n13 : Int) (s2 : ByteArray) (n14 n15 n16 n17 : Int) (s3 : ByteArray) (l3 l4 : Rw) =>
    some ([.agg [.i .i64 n10, .i .i64 n11, .i .i64 n12, .i .i64 n13, .s s2, .l l3, .l l4]], [[.l l2, .i .i64 n4, .i .i64 n5]]))
   (fun (n18 : Int) (b2 b3 b4 : Bool) (l5 : Rw) (n19 n20 n21 n22 n23 n24 : Int) (s4 : ByteArray) (n25 n26 n27 n28 : Int) (s5 : ByteArray) (n29 n30 n31 n32 : Int) (s6 : ByteArray) (l6 l7 l8 : Rw) =>
    some ([.agg [.i .i64 n25, .i .i64 n26, .i .i64 n27, .i .i64 n28, .s s5, .l l6, .l l7]], [[.l l5, .i .i64 n19, .i .i64 n20]])) KK (asI (resC y2 0 0)) SV.undef SV.undef SV.undef l1 (asI (outC y2 0 1)) (asI (outC y2 0 2)) (0 : Int) (0 : Int) (0 : Int) (0 : Int) (⟨#[]⟩ : ByteArray) y3 y4 y5 y6 y7 y3 y4 y5 y6 y7 (asL (resC y1 0 5)) ([] : Rw)
def t78 : Y78 := ta78 t52 t53 t73 t74 t79 t80
def zr78 : List DV := [.agg [.i .i64 0, .i .i64 0, .i .i64 0, .i .i64 0, .s ⟨#[]⟩, .l [], .l []]]
def zo78 : Rw := [[.l [], .i .i64 0, .i .i64 0]]
def A78 : List TA := [.ptr [.l, .i .i64, .i .i64]]
abbrev Y84 := Int → Int → Rs
def ta84 (t83 : Y83) (n1 n2 : Int) : Rs :=
  if n1 == (0 : Int) then
   some ([.one (.b (n2 == (0 : Int)))], [])
  else
   let y1 := t83 n1 (1 : Int) (100000 : Int)
   chk (okR zr83 zo83 y1) <|
   let y2 := t83 n2 (1 : Int) (100000 : Int)
   let y3 := asB (resC y1 0 0)
   chk ((okR zr83 zo83 y2) || !y3) <|
   some ([.one (.b (y3 && (asB (resC y2 0 0))))], [])
def t84 : Y84 := ta84 t83
def zr84 : List DV := [.one (.b false)]
def zo84 : Rw := []
def A84 : List TA := [.one (.i .i64), .one (.i .i64)]
abbrev Y51 := Int → Int → Int → Int → ByteArray → Rw → Rs
def la51o1 (t83 : Y83) (t84 : Y84) (n1 n2 n3 n4 : Int) (s1 : ByteArray) (l1 : Rw) (b1 b2 : Bool) (n5 n6 n7 n8 : Int) (s2 : ByteArray) (l2 : Rw) (q1 : Int → Int → Bool → Bool → Int → ByteArray → Rs) (q2 : Int → Int → Bool → SV → Rs) : Nat → Int → Int → SV → SV → Rs
  | 0, _, _, _, _ => none
  | m + 1, n9, n10, v1, v2 =>
    let y1 := decide (n10 < (l2.length : Int))
    if y1 then
     let y2 := l2.getD n10.toNat []
     chk (decide (0 ≤ n10) && decide (n10 < l2.length) && isRow z90 y2) <|
     let y3 := asI (nthD y2 0)
     let y4 := asS (nthD y2 1)
     let y5 := (((decide (y3 < (1 : Int))) || (decide (y3 < n9))) || (decide (y3 > n5))) || (decide ((y4.size : Int) > (1600 : Int)))
     if y5 then
      q1 n9 n10 y1 y5 y3 y4
     else
      la51o1 t83 t84 n1 n2 n3 n4 s1 l1 b1 b2 n5 n6 n7 n8 s2 l2 q1 q2 m y3 (w64 (n10 + (1 : Int))) (.d (.b y1)) (.d (.b y5))
    else
     q2 n9 n10 y1 (keepV [64] v2)
def ta51 (t83 : Y83) (t84 : Y84) (n1 n2 n3 n4 : Int) (s1 : ByteArray) (l1 : Rw) : Rs :=
  let y1 := t83 n1 (0 : Int) (100000 : Int)
  chk (okR zr83 zo83 y1) <|
  let y2 := t83 n2 (-1 : Int) (4 : Int)
  let y3 := !(asB (resC y1 0 0))
  chk ((okR zr83 zo83 y2) || !(!y3)) <|
  let y4 := y3 || (!(asB (resC y2 0 0)))
  chk ((okR zr84 zo84 (t84 n3 n4)) || !(!y4)) <|
  let y5 := (((((y4 || (!(asB (resC (t84 n3 n4) 0 0)))) || ((n3 == (0 : Int)) && (!(s1.toList == (⟨#[]⟩ : ByteArray).toList)))) || (decide ((s1.size : Int) > (20000 : Int)))) || (decide (n4 > n1))) || (decide ((l1.length : Int) > (60 : Int)))) || (decide ((w64 (n3 + (l1.length : Int))) > (100000 : Int)))
  if y5 then
   some ([.one (.b false)], [])
  else
   la51o1 t83 t84 n1 n2 n3 n4 s1 l1 false y5 n1 n2 n3 n4 s1 l1
    (fun (n5 n6 : Int) (b1 b2 : Bool) (n7 : Int) (s2 : ByteArray) =>
     some ([.one (.b false)], []))
    (fun (n8 n9 : Int) (b3 : Bool) (v1 : SV) =>
     some ([.one (.b true)], [])) KK n4 (0 : Int) SV.undef SV.undef
def t51 : Y51 := ta51 t83 t84
def zr51 : List DV := [.one (.b false)]
def zo51 : Rw := []
def A51 : List TA := [.agg [.i .i64, .i .i64, .i .i64, .i .i64, .s, .l]]
abbrev Y63 := Int → Int → Int → Int → ByteArray → Rw → Rw → Int → Rs
def la63o0 (t52 : Y52) (t53 : Y53) (n1 n2 n3 n4 : Int) (s1 : ByteArray) (l1 l2 : Rw) (n5 : Int) (b1 : Bool) (n6 n7 n8 n9 : Int) (s2 : ByteArray) (l3 l4 : Rw) (n10 n11 n12 n13 : Int) (s3 : ByteArray) (q1 : Int → Bool → Bool → Bool → Int → Int → Int → Int → ByteArray → Int → Int → Int → Int → ByteArray → Rw → Rs) (q2 : Int → SV → Bool → SV → Int → Int → Int → Int → ByteArray → Rw → Rs) : Nat → Int → SV → SV → SV → Int → Int → Int → Int → ByteArray → Rw → Rs
  | 0, _, _, _, _, _, _, _, _, _, _ => none
  | m + 1, n14, v1, v2, v3, n15, n16, n17, n18, s4, l5 =>
    let y1 := (decide (n14 < n5)) && (decide (n14 < (l4.length : Int)))
    if y1 then
     let y2 := l4.getD n14.toNat []
     chk (decide (0 ≤ n14) && decide (n14 < l4.length) && isRow z38 y2) <|
     let y3 := t52 n15 n16 n17 n18 s4 l5 (asI (nthD y2 0)) (asI (nthD y2 1)) (asI (nthD y2 2)) (asI (nthD y2 3)) (asS (nthD y2 4))
     chk (okR zr52 zo52 y3) <|
     let y4 := asB (resC y3 1 0)
     let y5 := !y4
     if y5 then
      let y6 := asI (resC y3 0 0)
      let y7 := asI (resC y3 0 1)
      let y8 := asI (resC y3 0 2)
      let y9 := asI (resC y3 0 3)
      let y10 := asS (resC y3 0 4)
      let y11 := asL (resC y3 0 5)
      q1 n14 y4 y1 y5 n15 n16 n17 n18 s4 y6 y7 y8 y9 y10 y11
     else
      let y12 := asI (resC y3 0 0)
      let y13 := asI (resC y3 0 1)
      let y14 := asI (resC y3 0 2)
      let y15 := asI (resC y3 0 3)
      let y16 := asS (resC y3 0 4)
      let y17 := asL (resC y3 0 5)
      la63o0 t52 t53 n1 n2 n3 n4 s1 l1 l2 n5 b1 n6 n7 n8 n9 s2 l3 l4 n10 n11 n12 n13 s3 q1 q2 m (w64 (n14 + (1 : Int))) (.d (.b y4)) (.d (.b y1)) (.d (.b y5)) y12 y13 y14 y15 y16 y17
    else
     q2 n14 (keepV [128, 256, 384, 24582] v1) y1 (keepV [128, 256, 384, 24582] v3) n15 n16 n17 n18 s4 l5
def ta63 (t52 : Y52) (t53 : Y53) (n1 n2 n3 n4 : Int) (s1 : ByteArray) (l1 l2 : Rw) (n5 : Int) : Rs :=
  let y1 := t53 n1 n2 n3 n4 s1 l1
  chk (okR zr53 zo53 y1) <|
  la63o0 t52 t53 n1 n2 n3 n4 s1 l1 l2 n5 false n1 n2 n3 n4 s1 l1 l2 (0 : Int) (0 : Int) (0 : Int) (0 : Int) (⟨#[]⟩ : ByteArray)
   (fun (n6 : Int) (b1 b2 b3 : Bool) (n7 n8 n9 n10 : Int) (s2 : ByteArray) (n11 n12 n13 n14 : Int) (s3 : ByteArray) (l3 : Rw) =>
    some ([.agg [.i .i64 0, .i .i64 0, .i .i64 0, .i .i64 0, .s ⟨#[]⟩, .l []], .one (.b false)], []))
   (fun (n15 : Int) (v1 : SV) (b4 : Bool) (v2 : SV) (n16 n17 n18 n19 : Int) (s4 : ByteArray) (l4 : Rw) =>
    some ([.agg [.i .i64 n16, .i .i64 n17, .i .i64 n18, .i .i64 n19, .s s4, .l l4], .one (.b true)], [])) KK (0 : Int) SV.undef SV.undef SV.undef (asI (resC y1 0 0)) (asI (resC y1 0 1)) (asI (resC y1 0 2)) (asI (resC y1 0 3)) (asS (resC y1 0 4)) (asL (resC y1 0 5))
def t63 : Y63 := ta63 t52 t53
def zr63 : List DV := [.agg [.i .i64 0, .i .i64 0, .i .i64 0, .i .i64 0, .s ⟨#[]⟩, .l []], .one (.b false)]
def zo63 : Rw := []
def A63 : List TA := [.agg [.i .i64, .i .i64, .i .i64, .i .i64, .s, .l, .l], .one (.i .i64)]
abbrev Y22 := Int → Int → Int → Int → ByteArray → Rw → Rw → Rs
def ta22 (t51 : Y51) (t63 : Y63) (n1 n2 n3 n4 : Int) (s1 : ByteArray) (l1 l2 : Rw) : Rs :=
  let y1 := t51 n1 n2 n3 n4 s1 l1
  chk (okR zr51 zo51 y1) <|
  if (!(asB (resC y1 0 0))) || (decide ((l2.length : Int) > (80 : Int))) then
   some ([.one (.b false)], [])
  else
   let y2 := t63 n1 n2 n3 n4 s1 l1 l2 (l2.length : Int)
   chk (okR zr63 zo63 y2) <|
   some ([.one (.b (asB (resC y2 1 0)))], [])
def t22 : Y22 := ta22 t51 t63
def zr22 : List DV := [.one (.b false)]
def zo22 : Rw := []
def A22 : List TA := [.agg [.i .i64, .i .i64, .i .i64, .i .i64, .s, .l, .l]]
abbrev Y31 := Int → Int → Int → Int → ByteArray → Rw → Rw → Rs
def ta31 (t22 : Y22) (t63 : Y63) (n1 n2 n3 n4 : Int) (s1 : ByteArray) (l1 l2 : Rw) : Rs :=
  let y1 := t22 n1 n2 n3 n4 s1 l1 l2
  chk (okR zr22 zo22 y1) <|
  if !(asB (resC y1 0 0)) then
   some ([.agg [.i .i64 (0 : Int), .i .i64 (0 : Int), .i .i64 (0 : Int), .i .i64 (0 : Int), .s (⟨#[]⟩ : ByteArray), .l ([] : Rw)]], [])
  else
   let y2 := t63 n1 n2 n3 n4 s1 l1 l2 (l2.length : Int)
   chk ((okR zr63 zo63 y2) && (asB (resC y2 1 0))) <|
   some ([.agg [.i .i64 (asI (resC y2 0 0)), .i .i64 (asI (resC y2 0 1)), .i .i64 (asI (resC y2 0 2)), .i .i64 (asI (resC y2 0 3)), .s (asS (resC y2 0 4)), .l (asL (resC y2 0 5))]], [])
def t31 : Y31 := ta31 t22 t63
def zr31 : List DV := [.agg [.i .i64 0, .i .i64 0, .i .i64 0, .i .i64 0, .s ⟨#[]⟩, .l []]]
def zo31 : Rw := []
def A31 : List TA := [.agg [.i .i64, .i .i64, .i .i64, .i .i64, .s, .l, .l]]
abbrev Y47 := Rw → Rs
def la47o3 (t31 : Y31) (t52 : Y52) (t53 : Y53) (t72 : Y72) (t74 : Y74) (t78 : Y78) (t79 : Y79) (t80 : Y80) (t81 : Y81) (l1 : Rw) (n1 n2 n3 : Int) (b1 b2 : Bool) (n4 n5 n6 n7 : Int) (s1 : ByteArray) (n8 n9 n10 n11 : Int) (s2 : ByteArray) (n12 n13 n14 n15 : Int) (s3 : ByteArray) (l2 : Rw) (n16 n17 : Int) (l3 l4 l5 l6 : Rw) (q1 : Int → Bool → Rw → Rs) : Nat → Int → SV → Rw → Rs
  | 0, _, _, _ => none
  | m + 1, n18, v1, l7 =>
    let y1 := decide (n18 < n3)
    if y1 then
     let y2 := ([[.i .i64 (1 : Int), .i .i64 (w64 ((w64 (n8 + (20 : Int))) + n18)), .i .i64 (0 : Int), .i .i64 (-1 : Int), .s (⟨#[]⟩ : ByteArray)]] : Rw)
     chk ((flatR 5 y2) && decide (l7.length + y2.length ≤ lim)) <|
     la47o3 t31 t52 t53 t72 t74 t78 t79 t80 t81 l1 n1 n2 n3 b1 b2 n4 n5 n6 n7 s1 n8 n9 n10 n11 s2 n12 n13 n14 n15 s3 l2 n16 n17 l3 l4 l5 l6 q1 m (w64 (n18 + (1 : Int))) (.d (.b y1)) (l7 ++ y2)
    else
     q1 n18 y1 l7
def la47o0 (t31 : Y31) (t52 : Y52) (t53 : Y53) (t72 : Y72) (t74 : Y74) (t78 : Y78) (t79 : Y79) (t80 : Y80) (t81 : Y81) (l1 : Rw) (n1 n2 n3 n4 n5 : Int) (s1 : ByteArray) (n6 n7 n8 n9 : Int) (s2 : ByteArray) (l2 l3 l4 : Rw) (q1 : Int → Bool → Int → Int → Int → Int → ByteArray → Int → Int → Rw → Rw → Rs) : Nat → Int → SV → Int → Int → Int → Int → ByteArray → Int → Int → Rw → Rw → Rs
  | 0, _, _, _, _, _, _, _, _, _, _, _ => none
  | m + 1, n10, v1, n11, n12, n13, n14, s3, n15, n16, l5, l6 =>
    let y1 := decide (n10 > (0 : Int))
    if y1 then
     let y2 := t80 l2 n15 n16 n11 n12 n13 n14 s3 l6
     chk (okR zr80 zo80 y2) <|
     let y3 := asI (resC y2 0 0)
     let y4 := asI (resC y2 0 1)
     let y5 := asI (resC y2 0 2)
     let y6 := asI (resC y2 0 3)
     let y7 := asS (resC y2 0 4)
     let y8 := ([[.i .i64 y3, .i .i64 y4, .i .i64 y5, .i .i64 y6, .s y7]] : Rw)
     chk ((flatR 5 y8) && decide (l5.length + y8.length ≤ lim)) <|
     let y9 := t53 n11 n12 n13 n14 s3 l6
     chk (okR zr53 zo53 y9) <|
     let y10 := t52 (asI (resC y9 0 0)) (asI (resC y9 0 1)) (asI (resC y9 0 2)) (asI (resC y9 0 3)) (asS (resC y9 0 4)) (asL (resC y9 0 5)) y3 y4 y5 y6 y7
     chk (okR zr52 zo52 y10) <|
     la47o0 t31 t52 t53 t72 t74 t78 t79 t80 t81 l1 n1 n2 n3 n4 n5 s1 n6 n7 n8 n9 s2 l2 l3 l4 q1 m (w64 (n10 - (1 : Int))) (.d (.b y1)) (asI (resC y10 0 0)) (asI (resC y10 0 1)) (asI (resC y10 0 2)) (asI (resC y10 0 3)) (asS (resC y10 0 4)) (asI (outC y2 0 1)) (asI (outC y2 0 2)) (l5 ++ y8) (asL (resC y10 0 5))
    else
     q1 n10 y1 n11 n12 n13 n14 s3 n15 n16 l5 l6
def ta47 (t31 : Y31) (t52 : Y52) (t53 : Y53) (t72 : Y72) (t74 : Y74) (t78 : Y78) (t79 : Y79) (t80 : Y80) (t81 : Y81) (l1 : Rw) : Rs :=
  chk (okR zr72 zo72 (t72 l1)) <|
  let y1 := asL (resC (t72 l1) 0 0)
  let y2 := t78 y1 (asI (resC (t72 l1) 0 1)) (asI (resC (t72 l1) 0 2))
  chk (okR zr78 zo78 y2) <|
  let y3 := asI (resC y2 0 0)
  let y4 := asI (resC y2 0 1)
  let y5 := asI (resC y2 0 2)
  let y6 := asI (resC y2 0 3)
  let y7 := asS (resC y2 0 4)
  let y8 := asL (resC y2 0 5)
  let y9 := asL (resC y2 0 6)
  let y10 := t31 y3 y4 y5 y6 y7 y8 y9
  chk (okR zr31 zo31 y10) <|
  let y11 := t79 y1 (asI (outC y2 0 1)) (asI (outC y2 0 2)) (5 : Int)
  chk (okR zr79 zo79 y11) <|
  la47o0 t31 t52 t53 t72 t74 t78 t79 t80 t81 l1 (0 : Int) (0 : Int) (0 : Int) (0 : Int) (0 : Int) (⟨#[]⟩ : ByteArray) y3 y4 y5 y6 y7 y1 y8 y9
   (fun (n1 : Int) (b1 : Bool) (n2 n3 n4 n5 : Int) (s1 : ByteArray) (n6 n7 : Int) (l2 l3 : Rw) =>
    let y12 := t74 y1 n6 n7 (25 : Int)
    chk (okR zr74 zo74 y12) <|
    let y13 := asB (resC y12 0 0)
    if y13 then
     let y14 := asI (outC y12 0 1)
     let y15 := asI (outC y12 0 2)
     let y16 := t79 y1 y14 y15 (2 : Int)
     chk (okR zr79 zo79 y16) <|
     let y17 := asI (outC y16 0 1)
     let y18 := asI (outC y16 0 2)
     la47o3 t31 t52 t53 t72 t74 t78 t79 t80 t81 l1 (0 : Int) n1 (w64 ((80 : Int) + (asI (resC y16 0 0)))) b1 y13 (0 : Int) (0 : Int) (0 : Int) (0 : Int) (⟨#[]⟩ : ByteArray) y3 y4 y5 y6 y7 n2 n3 n4 n5 s1 y1 y17 y18 l2 y8 y9 l3
      (fun (n8 : Int) (b2 : Bool) (l4 : Rw) =>
       let y19 := t81 y1 y17 y18 ([[.i .i64 (-1 : Int)], [.i .i64 (0 : Int)], [.i .i64 (1 : Int)], [.i .i64 (2 : Int)], [.i .i64 (90 : Int)], [.i .i64 (3 : Int)]] : Rw)
       chk (okR zr81 zo81 y19) <|
       some ([.agg [.i .i64 y3, .i .i64 y4, .i .i64 y5, .i .i64 y6, .s y7, .l y8, .l y9], .one (.l l4), .one (.i .i64 (asI (resC y19 0 0)))], [])) KK (0 : Int) SV.undef ([] : Rw)
    else
     let y20 := asI (outC y12 0 1)
     let y21 := asI (outC y12 0 2)
     let y22 := t81 y1 y20 y21 ([[.i .i64 (-1 : Int)], [.i .i64 (0 : Int)], [.i .i64 (1 : Int)], [.i .i64 (2 : Int)], [.i .i64 (90 : Int)], [.i .i64 (3 : Int)]] : Rw)
     chk (okR zr81 zo81 y22) <|
     some ([.agg [.i .i64 y3, .i .i64 y4, .i .i64 y5, .i .i64 y6, .s y7, .l y8, .l y9], .one (.l l2), .one (.i .i64 (asI (resC y22 0 0)))], [])) KK (asI (resC y11 0 0)) SV.undef (asI (resC y10 0 0)) (asI (resC y10 0 1)) (asI (resC y10 0 2)) (asI (resC y10 0 3)) (asS (resC y10 0 4)) (asI (outC y11 0 1)) (asI (outC y11 0 2)) ([] : Rw) (asL (resC y10 0 5))
def t47 : Y47 := ta47 t31 t52 t53 t72 t74 t78 t79 t80 t81
def zr47 : List DV := [.agg [.i .i64 0, .i .i64 0, .i .i64 0, .i .i64 0, .s ⟨#[]⟩, .l [], .l []], .one (.l []), .one (.i .i64 0)]
def zo47 : Rw := []
def A47 : List TA := [.one (.l)]
abbrev Y76 := Int → Int → Int → Rs
def t76 (n1 n2 n3 : Int) : Rs :=
  some ([.one (.b ((decide (n1 ≥ n2)) && (decide (n1 ≤ n3))))], [])
def zr76 : List DV := [.one (.b false)]
def zo76 : Rw := []
def A76 : List TA := [.one (.i .i64), .one (.i .i64), .one (.i .i64)]
abbrev Y56 := Int → Int → Int → Int → ByteArray → Rw → Rs
def la56o2 (t76 : Y76) (n1 n2 n3 n4 : Int) (s1 : ByteArray) (l1 : Rw) (b1 b2 b3 : Bool) (l2 : Rw) (n5 n6 n7 n8 n9 : Int) (s2 : ByteArray) (l3 : Rw) (q1 : Int → Int → Bool → Bool → Int → ByteArray → Rs) (q2 : Int → Int → Bool → SV → Rs) : Nat → Int → Int → SV → SV → Rs
  | 0, _, _, _, _ => none
  | m + 1, n10, n11, v1, v2 =>
    let y1 := decide (n11 < n5)
    if y1 then
     let y2 := l2.getD n11.toNat []
     chk (decide (0 ≤ n11) && decide (n11 < l2.length) && isRow z90 y2) <|
     let y3 := asI (nthD y2 0)
     let y4 := t76 y3 n10 n6
     let y5 := asS (nthD y2 1)
     let y6 := decide ((y5.size : Int) > (1600 : Int))
     chk ((okR zr76 zo76 y4) || !(!y6)) <|
     let y7 := y6 || (!(asB (resC y4 0 0)))
     if y7 then
      q1 n10 n11 y1 y7 y3 y5
     else
      la56o2 t76 n1 n2 n3 n4 s1 l1 b1 b2 b3 l2 n5 n6 n7 n8 n9 s2 l3 q1 q2 m y3 (w64 (n11 + (1 : Int))) (.d (.b y1)) (.d (.b y7))
    else
     q2 n10 n11 y1 (keepV [64] v2)
def ta56 (t76 : Y76) (n1 n2 n3 n4 : Int) (s1 : ByteArray) (l1 : Rw) : Rs :=
  let y1 := t76 n1 (0 : Int) (100000 : Int)
  chk (okR zr76 zo76 y1) <|
  let y2 := t76 n2 (-1 : Int) (4 : Int)
  let y3 := !(asB (resC y1 0 0))
  chk ((okR zr76 zo76 y2) || !(!y3)) <|
  let y4 := (y3 || (!(asB (resC y2 0 0)))) || (decide ((l1.length : Int) > (60 : Int)))
  if y4 then
   some ([.one (.b false)], [])
  else
   let y5 := t76 n3 (1 : Int) (100000 : Int)
   let y6 := !((n3 == (0 : Int)) && ((n4 == (0 : Int)) && ((s1.toList == (⟨#[]⟩ : ByteArray).toList) && true)))
   chk ((okR zr76 zo76 y5) || !y6) <|
   let y7 := t76 n4 (1 : Int) n1
   let y8 := !(asB (resC y5 0 0))
   chk ((okR zr76 zo76 y7) || !(y6 && (!y8))) <|
   let y9 := y6 && ((y8 || (!(asB (resC y7 0 0)))) || (decide ((s1.size : Int) > (20000 : Int))))
   if y9 then
    some ([.one (.b false)], [])
   else
    la56o2 t76 n1 n2 n3 n4 s1 l1 false y4 y9 l1 (l1.length : Int) n1 n2 n3 n4 s1 l1
     (fun (n5 n6 : Int) (b1 b2 : Bool) (n7 : Int) (s2 : ByteArray) =>
      some ([.one (.b false)], []))
     (fun (n8 n9 : Int) (b3 : Bool) (v1 : SV) =>
      some ([.one (.b (decide ((w64 (n3 + (l1.length : Int))) ≤ (100000 : Int))))], [])) KK (if n4 > (1 : Int) then n4 else (1 : Int)) (0 : Int) SV.undef SV.undef
def t56 : Y56 := ta56 t76
def zr56 : List DV := [.one (.b false)]
def zo56 : Rw := []
def A56 : List TA := [.agg [.i .i64, .i .i64, .i .i64, .i .i64, .s, .l]]
abbrev Y57 := Int → Int → Int → Int → ByteArray → Rw → Rs
def t57 (n1 n2 n3 n4 : Int) (s1 : ByteArray) (l1 : Rw) : Rs :=
  chk ((flatR 2 l1) && decide (l1.length ≤ lim)) <|
  some ([.agg [.i .i64 n1, .i .i64 n2, .i .i64 n3, .i .i64 n4, .s s1, .l l1]], [])
def zr57 : List DV := [.agg [.i .i64 0, .i .i64 0, .i .i64 0, .i .i64 0, .s ⟨#[]⟩, .l []]]
def zo57 : Rw := []
def A57 : List TA := [.agg [.i .i64, .i .i64, .i .i64, .i .i64, .s, .l]]
abbrev Y45 := Int → Int → Int → Int → ByteArray → Rs
def ta45 (t76 : Y76) (n1 n2 n3 n4 : Int) (s1 : ByteArray) : Rs :=
  if n1 == (1 : Int) then
   let y1 := t76 n2 (0 : Int) (100000 : Int)
   chk (okR zr76 zo76 y1) <|
   let y2 := t76 n4 (-1 : Int) (4 : Int)
   let y3 := asB (resC y1 0 0)
   chk ((okR zr76 zo76 y2) || !y3) <|
   some ([.one (.b ((y3 && (asB (resC y2 0 0))) && ((n1 == n1) && ((n2 == n2) && ((n3 == (0 : Int)) && ((n4 == n4) && ((s1.toList == (⟨#[]⟩ : ByteArray).toList) && true)))))))], [])
  else
   if n1 == (2 : Int) then
    let y4 := t76 n2 (1 : Int) (100000 : Int)
    chk (okR zr76 zo76 y4) <|
    let y5 := t76 n3 (1 : Int) (100000 : Int)
    let y6 := asB (resC y4 0 0)
    chk ((okR zr76 zo76 y5) || !y6) <|
    some ([.one (.b (((y6 && (asB (resC y5 0 0))) && (decide ((s1.size : Int) ≤ (1600 : Int)))) && ((n1 == n1) && ((n2 == n2) && ((n3 == n3) && ((n4 == (0 : Int)) && ((s1.toList == s1.toList) && true)))))))], [])
   else
    if n1 == (3 : Int) then
     let y7 := t76 n3 (1 : Int) (100000 : Int)
     chk (okR zr76 zo76 y7) <|
     some ([.one (.b ((asB (resC y7 0 0)) && ((n1 == n1) && ((n2 == (0 : Int)) && ((n3 == n3) && ((n4 == (0 : Int)) && ((s1.toList == (⟨#[]⟩ : ByteArray).toList) && true)))))))], [])
    else
     let k1 := fun (b1 : Bool) (n5 n6 : Int) (s2 : ByteArray) =>
      some ([.one (.b (b1 && ((n1 == n1) && ((n2 == n5) && ((n3 == n6) && ((n4 == (0 : Int)) && ((s1.toList == s2.toList) && true)))))))], [])
     if n1 == (4 : Int) then
      let y8 := t76 n2 (1 : Int) (100000 : Int)
      chk (okR zr76 zo76 y8) <|
      let y9 := t76 n3 (1 : Int) (100000 : Int)
      let y10 := asB (resC y8 0 0)
      chk ((okR zr76 zo76 y9) || !y10) <|
      k1 ((y10 && (asB (resC y9 0 0))) && (decide ((s1.size : Int) ≤ (20000 : Int)))) n2 n3 s1
     else
      k1 false (0 : Int) (0 : Int) (⟨#[]⟩ : ByteArray)
def t45 : Y45 := ta45 t76
def zr45 : List DV := [.one (.b false)]
def zo45 : Rw := []
def A45 : List TA := [.agg [.i .i64, .i .i64, .i .i64, .i .i64, .s]]
abbrev Y95 := Int → Int → Int → Int → ByteArray → Rw → Rs
def t95 (n1 n2 n3 n4 : Int) (s1 : ByteArray) (l1 : Rw) : Rs :=
  let y1 := (l1.length : Int)
  if y1 == (0 : Int) then
   some ([.one (.i .i64 n3), .one (.i .i64 n4)], [])
  else
   let y2 := w64 (y1 - (1 : Int))
   let y3 := l1.getD y2.toNat []
   chk (decide (0 ≤ y2) && decide (y2 < l1.length) && isRow z90 y3) <|
   some ([.one (.i .i64 (w64 (n3 + y1))), .one (.i .i64 (asI (nthD y3 0)))], [])
def zr95 : List DV := [.one (.i .i64 0), .one (.i .i64 0)]
def zo95 : Rw := []
def A95 : List TA := [.ptr [.i .i64, .i .i64, .i .i64, .i .i64, .s, .l]]
abbrev Y88 := Int → Int → Int → Int → ByteArray → Rw → Int → Int → Int → Int → ByteArray → Rs
def ta88 (t76 : Y76) (t95 : Y95) (n1 n2 n3 n4 : Int) (s1 : ByteArray) (l1 : Rw) (n5 n6 n7 n8 : Int) (s2 : ByteArray) : Rs :=
  let y1 := t95 n1 n2 n3 n4 s1 l1
  chk (okR zr95 zo95 y1) <|
  if n5 == (1 : Int) then
   some ([.one (.b ((decide (n6 > n1)) || ((n6 == n1) && ((n2 == (-1 : Int)) || (n2 == n8)))))], [])
  else
   if n5 == (2 : Int) then
    let y2 := t76 n6 (asI (resC y1 1 0)) n1
    let y3 := asI (resC y1 0 0)
    let y4 := (n7 == (w64 (y3 + (1 : Int)))) && (decide ((l1.length : Int) < (60 : Int)))
    chk ((okR zr76 zo76 y2) || !y4) <|
    some ([.one (.b (y4 && (asB (resC y2 0 0))))], [])
   else
    if n5 == (3 : Int) then
     let y5 := asI (resC y1 0 0)
     let y6 := t76 n7 (w64 (n3 + (1 : Int))) y5
     chk (okR zr76 zo76 y6) <|
     some ([.one (.b (asB (resC y6 0 0)))], [])
    else
     some ([.one (.b ((decide (n7 > n3)) && (decide (n6 ≤ n1))))], [])
def t88 : Y88 := ta88 t76 t95
def zr88 : List DV := [.one (.b false)]
def zo88 : Rw := []
def A88 : List TA := [.ptr [.i .i64, .i .i64, .i .i64, .i .i64, .s, .l], .agg [.i .i64, .i .i64, .i .i64, .i .i64, .s]]
abbrev Y58 := Int → Int → Int → Int → ByteArray → Rw → Int → Int → Int → Int → ByteArray → Rs
def ta58 (t45 : Y45) (t88 : Y88) (n1 n2 n3 n4 : Int) (s1 : ByteArray) (l1 : Rw) (n5 n6 n7 n8 : Int) (s2 : ByteArray) : Rs :=
  let y1 := t45 n5 n6 n7 n8 s2
  chk (okR zr45 zo45 y1) <|
  let y2 := t88 n1 n2 n3 n4 s1 l1 n5 n6 n7 n8 s2
  let y3 := !(asB (resC y1 0 0))
  chk ((okR zr88 zo88 y2) || !(!y3)) <|
  if y3 || (!(asB (resC y2 0 0))) then
   some ([.one (.b false)], [[.i .i64 n1, .i .i64 n2, .i .i64 n3, .i .i64 n4, .s s1, .l l1]])
  else
   if n5 == (1 : Int) then
    some ([.one (.b true)], [[.i .i64 n6, .i .i64 n8, .i .i64 n3, .i .i64 n4, .s s1, .l l1]])
   else
    if n5 == (2 : Int) then
     let y4 := ([[.i .i64 n6, .s s2]] : Rw)
     chk ((flatR 2 y4) && decide (l1.length + y4.length ≤ lim)) <|
     some ([.one (.b true)], [[.i .i64 n1, .i .i64 n2, .i .i64 n3, .i .i64 n4, .s s1, .l (l1 ++ y4)]])
    else
     if n5 == (3 : Int) then
      let y5 := w64 ((w64 (n7 - n3)) - (1 : Int))
      chk (decide (0 ≤ y5 ∧ y5 ≤ l1.length ∧ y5 = y5)) <|
      some ([.one (.b true)], [[.i .i64 n1, .i .i64 n2, .i .i64 n3, .i .i64 n4, .s s1, .l (l1.take y5.toNat)]])
     else
      let y6 := w64 (n7 - n3)
      let y7 := w64 (y6 - (1 : Int))
      let y8 := decide (y6 ≤ (l1.length : Int))
      chk ((decide (0 ≤ y7) && decide (y7 < l1.length)) || !y8) <|
      let y9 := l1.getD (y7.toNat) []
      chk ((decide (1 ≤ y9.length) && isF z3 0 y9) || !y8) <|
      if y8 && ((asI (nthD y9 0)) == n6) then
       chk (decide (0 ≤ y6 ∧ y6 ≤ l1.length)) <|
       let y10 := l1.drop y6.toNat
       chk ((flatR 2 y10) && decide (y10.length ≤ lim)) <|
       some ([.one (.b true)], [[.i .i64 n1, .i .i64 n2, .i .i64 n7, .i .i64 n6, .s s2, .l y10]])
      else
       some ([.one (.b true)], [[.i .i64 n1, .i .i64 n2, .i .i64 n7, .i .i64 n6, .s s2, .l ([] : Rw)]])
def t58 : Y58 := ta58 t45 t88
def zr58 : List DV := [.one (.b false)]
def zo58 : Rw := [[.i .i64 0, .i .i64 0, .i .i64 0, .i .i64 0, .s ⟨#[]⟩, .l []]]
def A58 : List TA := [.ptr [.i .i64, .i .i64, .i .i64, .i .i64, .s, .l], .agg [.i .i64, .i .i64, .i .i64, .i .i64, .s]]
abbrev Y64 := Int → Int → Int → Int → ByteArray → Rw → Rw → Rs
def la64o1 (t56 : Y56) (t57 : Y57) (t58 : Y58) (n1 n2 n3 n4 : Int) (s1 : ByteArray) (l1 l2 : Rw) (b1 b2 : Bool) (l3 : Rw) (n5 n6 n7 n8 n9 : Int) (s2 : ByteArray) (q1 : Int → Bool → Bool → ByteArray → Int → Int → Int → Int → ByteArray → Int → Int → Int → Int → ByteArray → Rw → Rs) (q2 : Int → Bool → SV → Int → Int → Int → Int → ByteArray → Rw → Rs) : Nat → Int → SV → SV → Int → Int → Int → Int → ByteArray → Rw → Rs
  | 0, _, _, _, _, _, _, _, _, _ => none
  | m + 1, n10, v1, v2, n11, n12, n13, n14, s3, l4 =>
    let y1 := decide (n10 < n5)
    if y1 then
     let y2 := l3.getD n10.toNat []
     chk (decide (0 ≤ n10) && decide (n10 < l3.length) && isRow z38 y2) <|
     let y3 := asI (nthD y2 0)
     let y4 := asI (nthD y2 1)
     let y5 := asI (nthD y2 2)
     let y6 := asI (nthD y2 3)
     let y7 := asS (nthD y2 4)
     let y8 := t58 n11 n12 n13 n14 s3 l4 y3 y4 y5 y6 y7
     chk (okR zr58 zo58 y8) <|
     let y9 := !(asB (resC y8 0 0))
     if y9 then
      let y10 := asI (outC y8 0 0)
      let y11 := asI (outC y8 0 1)
      let y12 := asI (outC y8 0 2)
      let y13 := asI (outC y8 0 3)
      let y14 := asS (outC y8 0 4)
      let y15 := asL (outC y8 0 5)
      q1 n10 y1 y9 (⟨#[]⟩ : ByteArray) y10 y11 y12 y13 y14 y3 y4 y5 y6 y7 y15
     else
      let y16 := asI (outC y8 0 0)
      let y17 := asI (outC y8 0 1)
      let y18 := asI (outC y8 0 2)
      let y19 := asI (outC y8 0 3)
      let y20 := asS (outC y8 0 4)
      let y21 := asL (outC y8 0 5)
      la64o1 t56 t57 t58 n1 n2 n3 n4 s1 l1 l2 b1 b2 l3 n5 n6 n7 n8 n9 s2 q1 q2 m (w64 (n10 + (1 : Int))) (.d (.b y1)) (.d (.b y9)) y16 y17 y18 y19 y20 y21
    else
     q2 n10 y1 (keepV [128, 256, 16390] v2) n11 n12 n13 n14 s3 l4
def ta64 (t56 : Y56) (t57 : Y57) (t58 : Y58) (n1 n2 n3 n4 : Int) (s1 : ByteArray) (l1 l2 : Rw) : Rs :=
  let y1 := t56 n1 n2 n3 n4 s1 l1
  chk (okR zr56 zo56 y1) <|
  let y2 := (!(asB (resC y1 0 0))) || (decide ((l2.length : Int) > (80 : Int)))
  if y2 then
   some ([.agg [.i .i64 (0 : Int), .i .i64 (0 : Int), .i .i64 (0 : Int), .i .i64 (0 : Int), .s (⟨#[]⟩ : ByteArray), .l ([] : Rw)], .one (.b false)], [])
  else
   let y3 := t57 n1 n2 n3 n4 s1 l1
   chk (okR zr57 zo57 y3) <|
   la64o1 t56 t57 t58 n1 n2 n3 n4 s1 l1 l2 false y2 l2 (l2.length : Int) (0 : Int) (0 : Int) (0 : Int) (0 : Int) (⟨#[]⟩ : ByteArray)
    (fun (n5 : Int) (b1 b2 : Bool) (s2 : ByteArray) (n6 n7 n8 n9 : Int) (s3 : ByteArray) (n10 n11 n12 n13 : Int) (s4 : ByteArray) (l3 : Rw) =>
     some ([.agg [.i .i64 (0 : Int), .i .i64 (0 : Int), .i .i64 (0 : Int), .i .i64 (0 : Int), .s s2, .l ([] : Rw)], .one (.b false)], []))
    (fun (n14 : Int) (b3 : Bool) (v1 : SV) (n15 n16 n17 n18 : Int) (s5 : ByteArray) (l4 : Rw) =>
     some ([.agg [.i .i64 n15, .i .i64 n16, .i .i64 n17, .i .i64 n18, .s s5, .l l4], .one (.b true)], [])) KK (0 : Int) SV.undef SV.undef (asI (resC y3 0 0)) (asI (resC y3 0 1)) (asI (resC y3 0 2)) (asI (resC y3 0 3)) (asS (resC y3 0 4)) (asL (resC y3 0 5))
def t64 : Y64 := ta64 t56 t57 t58
def zr64 : List DV := [.agg [.i .i64 0, .i .i64 0, .i .i64 0, .i .i64 0, .s ⟨#[]⟩, .l []], .one (.b false)]
def zo64 : Rw := []
def A64 : List TA := [.ptr [.i .i64, .i .i64, .i .i64, .i .i64, .s, .l, .l]]
abbrev Y71 := Int → Int → Int → Int → ByteArray → Rw → Rw → Rs
def ta71 (t57 : Y57) (n1 n2 n3 n4 : Int) (s1 : ByteArray) (l1 l2 : Rw) : Rs :=
  let y1 := t57 n1 n2 n3 n4 s1 l1
  chk (okR zr57 zo57 y1) <|
  chk ((flatR 5 l2) && decide (l2.length ≤ lim)) <|
  some ([.agg [.i .i64 (asI (resC y1 0 0)), .i .i64 (asI (resC y1 0 1)), .i .i64 (asI (resC y1 0 2)), .i .i64 (asI (resC y1 0 3)), .s (asS (resC y1 0 4)), .l (asL (resC y1 0 5)), .l l2]], [])
def t71 : Y71 := ta71 t57
def zr71 : List DV := [.agg [.i .i64 0, .i .i64 0, .i .i64 0, .i .i64 0, .s ⟨#[]⟩, .l [], .l []]]
def zo71 : Rw := []
def A71 : List TA := [.agg [.i .i64, .i .i64, .i .i64, .i .i64, .s, .l, .l]]
abbrev Y42 := Int → Int → Int → Int → ByteArray → Rw → Rw → Rw → Int → Rs
def la42o1 (t58 : Y58) (t64 : Y64) (t71 : Y71) (n1 n2 n3 n4 : Int) (s1 : ByteArray) (l1 l2 l3 : Rw) (n5 n6 : Int) (b1 b2 : Bool) (l4 : Rw) (n7 n8 n9 n10 n11 : Int) (s2 : ByteArray) (l5 l6 : Rw) (n12 n13 n14 n15 : Int) (s3 : ByteArray) (n16 n17 n18 n19 : Int) (s4 : ByteArray) (l7 : Rw) (q1 : Int → Int → Bool → Bool → Int → Int → Int → Int → ByteArray → Rw → Rw → Rs) (q2 : Int → Int → Bool → SV → Int → Int → Int → Int → ByteArray → Rw → Rw → Rs) : Nat → Int → Int → SV → SV → Int → Int → Int → Int → ByteArray → Rw → Rw → Rs
  | 0, _, _, _, _, _, _, _, _, _, _, _ => none
  | m + 1, n20, n21, v1, v2, n22, n23, n24, n25, s5, l8, l9 =>
    let y1 := decide (n21 < n7)
    if y1 then
     let y2 := l4.getD n21.toNat []
     chk (decide (0 ≤ n21) && decide (n21 < l4.length) && isRow z38 y2) <|
     let y3 := (l9.length : Int) == (80 : Int)
     if !y3 then
      let y4 := asI (nthD y2 0)
      let y5 := asI (nthD y2 1)
      let y6 := asI (nthD y2 2)
      let y7 := asI (nthD y2 3)
      let y8 := asS (nthD y2 4)
      let y9 := t58 n22 n23 n24 n25 s5 l8 y4 y5 y6 y7 y8
      chk (okR zr58 zo58 y9) <|
      let y10 := y3 || (!(asB (resC y9 0 0)))
      if y10 then
       let y11 := asI (outC y9 0 0)
       let y12 := asI (outC y9 0 1)
       let y13 := asI (outC y9 0 2)
       let y14 := asI (outC y9 0 3)
       let y15 := asS (outC y9 0 4)
       let y16 := asL (outC y9 0 5)
       q1 n20 n21 y1 y10 y11 y12 y13 y14 y15 y16 l9
      else
       let y17 := ([[.i .i64 y4, .i .i64 y5, .i .i64 y6, .i .i64 y7, .s y8]] : Rw)
       chk ((flatR 5 y17) && decide (l9.length + y17.length ≤ lim)) <|
       let y18 := asI (outC y9 0 0)
       let y19 := asI (outC y9 0 1)
       let y20 := asI (outC y9 0 2)
       let y21 := asI (outC y9 0 3)
       let y22 := asS (outC y9 0 4)
       let y23 := asL (outC y9 0 5)
       la42o1 t58 t64 t71 n1 n2 n3 n4 s1 l1 l2 l3 n5 n6 b1 b2 l4 n7 n8 n9 n10 n11 s2 l5 l6 n12 n13 n14 n15 s3 n16 n17 n18 n19 s4 l7 q1 q2 m (w64 (n20 + (1 : Int))) (w64 (n21 + (1 : Int))) (.d (.b y1)) (.d (.b y10)) y18 y19 y20 y21 y22 y23 (l9 ++ y17)
     else
      if !y3 then
       none
      else
       chk (y3) <|
       q1 n20 n21 y1 true n22 n23 n24 n25 s5 l8 l9
    else
     q2 n20 n21 y1 (keepV [192, 384, 512, 640, 32774, 40966, 40967] v2) n22 n23 n24 n25 s5 l8 l9
def ta42 (t58 : Y58) (t64 : Y64) (t71 : Y71) (n1 n2 n3 n4 : Int) (s1 : ByteArray) (l1 l2 l3 : Rw) (n5 : Int) : Rs :=
  let y1 := t64 n1 n2 n3 n4 s1 l1 l2
  chk (okR zr64 zo64 y1) <|
  let y2 := asB (resC y1 1 0)
  let y3 := !y2
  if y3 then
   some ([.agg [.i .i64 (0 : Int), .i .i64 (0 : Int), .i .i64 (0 : Int), .i .i64 (0 : Int), .s (⟨#[]⟩ : ByteArray), .l ([] : Rw), .l ([] : Rw)], .one (.i .i64 (0 : Int))], [])
  else
   let y4 := t71 n1 n2 n3 n4 s1 l1 l2
   chk (okR zr71 zo71 y4) <|
   let y5 := (l3.length : Int)
   let y6 := if y5 < n5 then y5 else n5
   let y7 := if y6 > (0 : Int) then y6 else (0 : Int)
   chk (decide (0 ≤ (0 : Int) ∧ (0 : Int) ≤ y7 ∧ y7 ≤ l3.length ∧ (l3.getD 0 z38).length = z38.length)) <|
   let y8 := (l3.take y7.toNat).drop (0 : Int).toNat
   let y9 := asI (resC y4 0 0)
   let y10 := asI (resC y4 0 1)
   let y11 := asI (resC y4 0 2)
   let y12 := asI (resC y4 0 3)
   let y13 := asS (resC y4 0 4)
   let y14 := asL (resC y4 0 5)
   la42o1 t58 t64 t71 n1 n2 n3 n4 s1 l1 l2 l3 n5 (0 : Int) y2 y3 y8 (y8.length : Int) n1 n2 n3 n4 s1 l1 l2 (0 : Int) (0 : Int) (0 : Int) (0 : Int) (⟨#[]⟩ : ByteArray) y9 y10 y11 y12 y13 y14
    (fun (n6 n7 : Int) (b1 b2 : Bool) (n8 n9 n10 n11 : Int) (s2 : ByteArray) (l4 l5 : Rw) =>
     some ([.agg [.i .i64 y9, .i .i64 y10, .i .i64 y11, .i .i64 y12, .s y13, .l y14, .l l5], .one (.i .i64 n6)], []))
    (fun (n12 n13 : Int) (b3 : Bool) (v1 : SV) (n14 n15 n16 n17 : Int) (s3 : ByteArray) (l6 l7 : Rw) =>
     some ([.agg [.i .i64 y9, .i .i64 y10, .i .i64 y11, .i .i64 y12, .s y13, .l y14, .l l7], .one (.i .i64 n12)], [])) KK (0 : Int) (0 : Int) SV.undef SV.undef (asI (resC y1 0 0)) (asI (resC y1 0 1)) (asI (resC y1 0 2)) (asI (resC y1 0 3)) (asS (resC y1 0 4)) (asL (resC y1 0 5)) (asL (resC y4 0 6))
def t42 : Y42 := ta42 t58 t64 t71
def zr42 : List DV := [.agg [.i .i64 0, .i .i64 0, .i .i64 0, .i .i64 0, .s ⟨#[]⟩, .l [], .l []], .one (.i .i64 0)]
def zo42 : Rw := []
def A42 : List TA := [.agg [.i .i64, .i .i64, .i .i64, .i .i64, .s, .l, .l], .one (.l), .one (.i .i64)]
abbrev Y35 := Int → Int → Int → Int → ByteArray → Rw → Rw → Rs
def ta35 (t64 : Y64) (n1 n2 n3 n4 : Int) (s1 : ByteArray) (l1 l2 : Rw) : Rs :=
  let y1 := t64 n1 n2 n3 n4 s1 l1 l2
  chk (okR zr64 zo64 y1) <|
  if !(asB (resC y1 1 0)) then
   some ([.agg [.i .i64 (0 : Int), .i .i64 (0 : Int), .i .i64 (0 : Int), .i .i64 (0 : Int), .s (⟨#[]⟩ : ByteArray), .l ([] : Rw), .l ([] : Rw)]], [])
  else
   some ([.agg [.i .i64 (asI (resC y1 0 0)), .i .i64 (asI (resC y1 0 1)), .i .i64 (asI (resC y1 0 2)), .i .i64 (asI (resC y1 0 3)), .s (asS (resC y1 0 4)), .l (asL (resC y1 0 5)), .l ([] : Rw)]], [])
def t35 : Y35 := ta35 t64
def zr35 : List DV := [.agg [.i .i64 0, .i .i64 0, .i .i64 0, .i .i64 0, .s ⟨#[]⟩, .l [], .l []]]
def zo35 : Rw := []
def A35 : List TA := [.agg [.i .i64, .i .i64, .i .i64, .i .i64, .s, .l, .l]]
abbrev Y48 := Rw → Int → Rs
def t48 (l1 : Rw) (n1 : Int) : Rs :=
  if decide (n1 < (l1.length : Int)) then
   let y1 := l1.getD n1.toNat []
   chk (decide (0 ≤ n1) && decide (n1 < l1.length) && isRow z5 y1) <|
   some ([.one (.i .i64 (w64 (asI (nthD y1 0))))], [])
  else
   some ([.one (.i .i64 ((w64 ((w64 (n1 * (37 : Int))) + (w64 ((l1.length : Int) * (11 : Int))))).tmod (256 : Int)))], [])
def zr48 : List DV := [.one (.i .i64 0)]
def zo48 : Rw := []
def A48 : List TA := [.one (.l), .one (.i .i64)]
abbrev Y14 := Int → Int → Int → Int → ByteArray → Rw → Int → Int → Int → Int → ByteArray → Rs
def ta14 (t51 : Y51) (t52 : Y52) (t53 : Y53) (n1 n2 n3 n4 : Int) (s1 : ByteArray) (l1 : Rw) (n5 n6 n7 n8 : Int) (s2 : ByteArray) : Rs :=
  let y1 := t51 n1 n2 n3 n4 s1 l1
  chk (okR zr51 zo51 y1) <|
  if !(asB (resC y1 0 0)) then
   some ([.agg [.i .i64 (0 : Int), .i .i64 (0 : Int), .i .i64 (0 : Int), .i .i64 (0 : Int), .s (⟨#[]⟩ : ByteArray), .l ([] : Rw)], .one (.b false)], [])
  else
   let y2 := t53 n1 n2 n3 n4 s1 l1
   chk (okR zr53 zo53 y2) <|
   let y3 := t52 (asI (resC y2 0 0)) (asI (resC y2 0 1)) (asI (resC y2 0 2)) (asI (resC y2 0 3)) (asS (resC y2 0 4)) (asL (resC y2 0 5)) n5 n6 n7 n8 s2
   chk (okR zr52 zo52 y3) <|
   some ([.agg [.i .i64 (asI (resC y3 0 0)), .i .i64 (asI (resC y3 0 1)), .i .i64 (asI (resC y3 0 2)), .i .i64 (asI (resC y3 0 3)), .s (asS (resC y3 0 4)), .l (asL (resC y3 0 5))], .one (.b (asB (resC y3 1 0)))], [])
def t14 : Y14 := ta14 t51 t52 t53
def zr14 : List DV := [.agg [.i .i64 0, .i .i64 0, .i .i64 0, .i .i64 0, .s ⟨#[]⟩, .l []], .one (.b false)]
def zo14 : Rw := []
def A14 : List TA := [.agg [.i .i64, .i .i64, .i .i64, .i .i64, .s, .l], .agg [.i .i64, .i .i64, .i .i64, .i .i64, .s]]
abbrev Y24 := Int → Int → Int → Int → ByteArray → Rw → Rw → Rs
def ta24 (t64 : Y64) (n1 n2 n3 n4 : Int) (s1 : ByteArray) (l1 l2 : Rw) : Rs :=
  let y1 := t64 n1 n2 n3 n4 s1 l1 l2
  chk (okR zr64 zo64 y1) <|
  some ([.one (.b (asB (resC y1 1 0)))], [])
def t24 : Y24 := ta24 t64
def zr24 : List DV := [.one (.b false)]
def zo24 : Rw := []
def A24 : List TA := [.agg [.i .i64, .i .i64, .i .i64, .i .i64, .s, .l, .l]]
abbrev Y32 := Int → Int → Int → Int → ByteArray → Rw → Rw → Rs
def ta32 (t64 : Y64) (n1 n2 n3 n4 : Int) (s1 : ByteArray) (l1 l2 : Rw) : Rs :=
  let y1 := t64 n1 n2 n3 n4 s1 l1 l2
  chk (okR zr64 zo64 y1) <|
  some ([.agg [.i .i64 (asI (resC y1 0 0)), .i .i64 (asI (resC y1 0 1)), .i .i64 (asI (resC y1 0 2)), .i .i64 (asI (resC y1 0 3)), .s (asS (resC y1 0 4)), .l (asL (resC y1 0 5))]], [])
def t32 : Y32 := ta32 t64
def zr32 : List DV := [.agg [.i .i64 0, .i .i64 0, .i .i64 0, .i .i64 0, .s ⟨#[]⟩, .l []]]
def zo32 : Rw := []
def A32 : List TA := [.agg [.i .i64, .i .i64, .i .i64, .i .i64, .s, .l, .l]]
abbrev Y38 := Int → Int → Int → Int → ByteArray → Rw → Rw → Int → Rs
def ta38 (t24 : Y24) (t32 : Y32) (n1 n2 n3 n4 : Int) (s1 : ByteArray) (l1 l2 : Rw) (n5 : Int) : Rs :=
  let y1 := t24 n1 n2 n3 n4 s1 l1 l2
  chk (okR zr24 zo24 y1) <|
  if !(asB (resC y1 0 0)) then
   some ([.agg [.i .i64 (0 : Int), .i .i64 (0 : Int), .i .i64 (0 : Int), .i .i64 (0 : Int), .s (⟨#[]⟩ : ByteArray), .l ([] : Rw), .l ([] : Rw)]], [])
  else
   let y2 := (l2.length : Int)
   let y3 := if y2 < n5 then y2 else n5
   let y4 := if y3 > (0 : Int) then y3 else (0 : Int)
   chk (decide (0 ≤ (0 : Int) ∧ (0 : Int) ≤ y4 ∧ y4 ≤ l2.length ∧ (l2.getD 0 z38).length = z38.length)) <|
   let y5 := t32 n1 n2 n3 n4 s1 l1 ((l2.take y4.toNat).drop (0 : Int).toNat)
   chk (okR zr32 zo32 y5) <|
   some ([.agg [.i .i64 (asI (resC y5 0 0)), .i .i64 (asI (resC y5 0 1)), .i .i64 (asI (resC y5 0 2)), .i .i64 (asI (resC y5 0 3)), .s (asS (resC y5 0 4)), .l (asL (resC y5 0 5)), .l ([] : Rw)]], [])
def t38 : Y38 := ta38 t24 t32
def zr38 : List DV := [.agg [.i .i64 0, .i .i64 0, .i .i64 0, .i .i64 0, .s ⟨#[]⟩, .l [], .l []]]
def zo38 : Rw := []
def A38 : List TA := [.agg [.i .i64, .i .i64, .i .i64, .i .i64, .s, .l, .l], .one (.i .i64)]
abbrev Y77 := Rw → Rw → Rs
def l77o1 (l1 l2 : Rw) (b1 b2 : Bool) (q1 : Int → Bool → Bool → Rs) (q2 : Int → Bool → SV → Rs) : Nat → Int → SV → SV → Rs
  | 0, _, _, _ => none
  | m + 1, n1, v1, v2 =>
    let y1 := decide (n1 < (l1.length : Int))
    if y1 then
     let y2 := l1.getD n1.toNat []
     chk (decide (0 ≤ n1) && decide (n1 < l1.length) && isRow z90 y2) <|
     let y3 := l2.getD n1.toNat []
     chk (decide (0 ≤ n1) && decide (n1 < l2.length) && isRow z90 y3) <|
     let y4 := !(((asI (nthD y2 0)) == (asI (nthD y3 0))) && (((asS (nthD y2 1)).toList == (asS (nthD y3 1)).toList) && true))
     if y4 then
      q1 n1 y1 y4
     else
      l77o1 l1 l2 b1 b2 q1 q2 m (w64 (n1 + (1 : Int))) (.d (.b y1)) (.d (.b y4))
    else
     q2 n1 y1 (keepV [] v2)
def t77 (l1 l2 : Rw) : Rs :=
  let y1 := (l1.length : Int) != (l2.length : Int)
  if y1 then
   some ([.one (.b false)], [])
  else
   l77o1 l1 l2 false y1
    (fun (n1 : Int) (b1 b2 : Bool) =>
     some ([.one (.b false)], []))
    (fun (n2 : Int) (b3 : Bool) (v1 : SV) =>
     some ([.one (.b true)], [])) KK (0 : Int) SV.undef SV.undef
def zr77 : List DV := [.one (.b false)]
def zo77 : Rw := []
def A77 : List TA := [.one (.l), .one (.l)]
abbrev Y46 := Int → Int → Int → Int → ByteArray → Rw → Int → Int → Int → Int → ByteArray → Rw → Rs
def ta46 (t77 : Y77) (n1 n2 n3 n4 : Int) (s1 : ByteArray) (l1 : Rw) (n5 n6 n7 n8 : Int) (s2 : ByteArray) (l2 : Rw) : Rs :=
  let y1 := ((n1 == n5) && (n2 == n6)) && ((n3 == n7) && ((n4 == n8) && ((s1.toList == s2.toList) && true)))
  chk ((okR zr77 zo77 (t77 l1 l2)) || !y1) <|
  some ([.one (.b (y1 && (asB (resC (t77 l1 l2) 0 0))))], [])
def t46 : Y46 := ta46 t77
def zr46 : List DV := [.one (.b false)]
def zo46 : Rw := []
def A46 : List TA := [.agg [.i .i64, .i .i64, .i .i64, .i .i64, .s, .l], .agg [.i .i64, .i .i64, .i .i64, .i .i64, .s, .l]]
abbrev Y11 := Rw → Rs
def la11o3 (t14 : Y14) (t22 : Y22) (t31 : Y31) (t32 : Y32) (t35 : Y35) (t38 : Y38) (t42 : Y42) (t43 : Y43) (t46 : Y46) (t47 : Y47) (t48 : Y48) (l1 : Rw) (b1 : Bool) (n1 n2 n3 n4 : Int) (b2 b3 b4 : Bool) (n5 n6 n7 n8 : Int) (s1 : ByteArray) (n9 n10 n11 n12 : Int) (s2 : ByteArray) (n13 n14 n15 n16 : Int) (s3 : ByteArray) (n17 n18 n19 n20 : Int) (s4 : ByteArray) (l2 l3 l4 l5 l6 l7 l8 l9 l10 : Rw) (q1 : Int → Bool → Bool → Bool → Int → Int → Int → Int → ByteArray → Int → Int → Int → Int → ByteArray → Rw → Rw → Rs) (q2 : Int → SV → Bool → SV → Int → Int → Int → Int → ByteArray → Rw → Rs) : Nat → Int → SV → SV → SV → Int → Int → Int → Int → ByteArray → Rw → Rs
  | 0, _, _, _, _, _, _, _, _, _, _ => none
  | m + 1, n21, v1, v2, v3, n22, n23, n24, n25, s5, l11 =>
    let y1 := (decide (n21 < n3)) && (decide (n21 < n4))
    if y1 then
     chk (decide (0 ≤ n21) && decide (n21 < l2.length)) <|
     let y2 := l2.getD (n21.toNat) []
     chk (decide (5 ≤ y2.length) && isF z38 0 y2) <|
     let y3 := t14 n22 n23 n24 n25 s5 l11 (asI (nthD y2 0)) (asI (nthD y2 1)) (asI (nthD y2 2)) (asI (nthD y2 3)) (asS (nthD y2 4))
     chk (okR zr14 zo14 y3) <|
     let y4 := asB (resC y3 1 0)
     let y5 := !y4
     if y5 then
      let y6 := asI (resC y3 0 0)
      let y7 := asI (resC y3 0 1)
      let y8 := asI (resC y3 0 2)
      let y9 := asI (resC y3 0 3)
      let y10 := asS (resC y3 0 4)
      let y11 := asL (resC y3 0 5)
      q1 n21 y4 y1 y5 n22 n23 n24 n25 s5 y6 y7 y8 y9 y10 l11 y11
     else
      let y12 := asI (resC y3 0 0)
      let y13 := asI (resC y3 0 1)
      let y14 := asI (resC y3 0 2)
      let y15 := asI (resC y3 0 3)
      let y16 := asS (resC y3 0 4)
      let y17 := asL (resC y3 0 5)
      la11o3 t14 t22 t31 t32 t35 t38 t42 t43 t46 t47 t48 l1 b1 n1 n2 n3 n4 b2 b3 b4 n5 n6 n7 n8 s1 n9 n10 n11 n12 s2 n13 n14 n15 n16 s3 n17 n18 n19 n20 s4 l2 l3 l4 l5 l6 l7 l8 l9 l10 q1 q2 m (w64 (n21 + (1 : Int))) (.d (.b y4)) (.d (.b y1)) (.d (.b y5)) y12 y13 y14 y15 y16 y17
    else
     q2 n21 (keepV [192, 384, 512, 576, 768, 1351, 12294, 12295, 24582, 24583, 32774, 32775, 36870, 36871, 49158] v1) y1 (keepV [192, 384, 512, 576, 768, 1351, 12294, 12295, 24582, 24583, 32774, 32775, 36870, 36871, 49158] v3) n22 n23 n24 n25 s5 l11
def ta11 (t14 : Y14) (t22 : Y22) (t31 : Y31) (t32 : Y32) (t35 : Y35) (t38 : Y38) (t42 : Y42) (t43 : Y43) (t46 : Y46) (t47 : Y47) (t48 : Y48) (l1 : Rw) : Rs :=
  chk (okR zr43 zo43 (t43 l1)) <|
  let y1 := asB (resC (t43 l1) 0 0)
  if y1 then
   some ([.one (.b true)], [])
  else
   chk (okR zr47 zo47 (t47 l1)) <|
   let y2 := asI (resC (t47 l1) 0 0)
   let y3 := asI (resC (t47 l1) 0 1)
   let y4 := asI (resC (t47 l1) 0 2)
   let y5 := asI (resC (t47 l1) 0 3)
   let y6 := asS (resC (t47 l1) 0 4)
   let y7 := asL (resC (t47 l1) 0 5)
   let y8 := asL (resC (t47 l1) 0 6)
   let y9 := asL (resC (t47 l1) 1 0)
   let y10 := asI (resC (t47 l1) 2 0)
   let y11 := t42 y2 y3 y4 y5 y6 y7 y8 y9 y10
   chk (okR zr42 zo42 y11) <|
   let y12 := t22 y2 y3 y4 y5 y6 y7 y8
   chk (okR zr22 zo22 y12) <|
   let y13 := !(asB (resC y12 0 0))
   if y13 then
    let y14 := asI (resC y11 1 0)
    let y15 := asL (resC y11 0 6)
    let y16 := asI (resC y11 0 1)
    let y17 := asL (resC y11 0 5)
    some ([.one (.b ((((y14 == (0 : Int)) && ((y15.length : Int) == (0 : Int))) && (y16 == (0 : Int))) && ((y17.length : Int) == (0 : Int))))], [])
   else
    let y18 := t35 y2 y3 y4 y5 y6 y7 y8
    chk (okR zr35 zo35 y18) <|
    let y19 := asI (resC y18 0 0)
    let y20 := asI (resC y18 0 1)
    let y21 := asI (resC y18 0 2)
    let y22 := asI (resC y18 0 3)
    let y23 := asS (resC y18 0 4)
    let y24 := asL (resC y18 0 5)
    let y25 := asL (resC y18 0 6)
    let y26 := t42 y19 y20 y21 y22 y23 y24 y25 y9 y10
    chk (okR zr42 zo42 y26) <|
    let y27 := t48 l1 (1 : Int)
    chk (okR zr48 zo48 y27) <|
    let y28 := t31 y19 y20 y21 y22 y23 y24 y25
    chk (okR zr31 zo31 y28) <|
    let y29 := asI (resC y11 1 0)
    let y30 := asI (resC y26 1 0)
    let y31 := (((decide (y29 < (0 : Int))) || (decide (y30 < (0 : Int)))) || (decide (y30 > (y9.length : Int)))) || (decide (y29 > (y9.length : Int)))
    if y31 then
     some ([.one (.b false)], [])
    else
     let y32 := (asI (resC y27 0 0)).tmod (7 : Int)
     let y33 := asI (resC y11 0 0)
     let y34 := asI (resC y11 0 1)
     let y35 := asI (resC y11 0 2)
     let y36 := asI (resC y11 0 3)
     let y37 := asS (resC y11 0 4)
     let y38 := asI (resC y26 0 0)
     let y39 := asI (resC y26 0 1)
     let y40 := asI (resC y26 0 2)
     let y41 := asI (resC y26 0 3)
     let y42 := asS (resC y26 0 4)
     let y43 := asL (resC y11 0 5)
     let y44 := asL (resC y11 0 6)
     let y45 := asL (resC y26 0 5)
     let y46 := asL (resC y26 0 6)
     la11o3 t14 t22 t31 t32 t35 t38 t42 t43 t46 t47 t48 l1 false y10 y29 y30 y32 y1 y13 y31 y2 y3 y4 y5 y6 y33 y34 y35 y36 y37 y19 y20 y21 y22 y23 y38 y39 y40 y41 y42 y9 y7 y8 y43 y44 y24 y25 y45 y46
      (fun (n1 : Int) (b1 b2 b3 : Bool) (n2 n3 n4 n5 : Int) (s1 : ByteArray) (n6 n7 n8 n9 : Int) (s2 : ByteArray) (l2 l3 : Rw) =>
       some ([.one (.b false)], []))
      (fun (n10 : Int) (v1 : SV) (b4 : Bool) (v2 : SV) (n11 n12 n13 n14 : Int) (s3 : ByteArray) (l4 : Rw) =>
       let y47 := t38 y38 y39 y40 y41 y42 y45 y46 y32
       chk (okR zr38 zo38 y47) <|
       let y48 := t22 y33 y34 y35 y36 y37 y43 y44
       chk (okR zr22 zo22 y48) <|
       let y49 := t22 y38 y39 y40 y41 y42 y45 y46
       let y50 := asB (resC y48 0 0)
       chk ((okR zr22 zo22 y49) || !y50) <|
       let y51 := (y50 && (asB (resC y49 0 0))) && ((y25.length : Int) == (0 : Int))
       if y51 then
        let y52 := t31 y19 y20 y21 y22 y23 y24 y25
        chk (okR zr31 zo31 y52) <|
        if y51 then
         let y53 := t31 y2 y3 y4 y5 y6 y7 y8
         chk (okR zr31 zo31 y53) <|
         let y54 := t46 (asI (resC y52 0 0)) (asI (resC y52 0 1)) (asI (resC y52 0 2)) (asI (resC y52 0 3)) (asS (resC y52 0 4)) (asL (resC y52 0 5)) (asI (resC y53 0 0)) (asI (resC y53 0 1)) (asI (resC y53 0 2)) (asI (resC y53 0 3)) (asS (resC y53 0 4)) (asL (resC y53 0 5))
         chk ((okR zr46 zo46 y54) || !y51) <|
         let y55 := asI (resC y47 0 0)
         let y56 := asI (resC y47 0 1)
         let y57 := asI (resC y47 0 2)
         let y58 := asI (resC y47 0 3)
         let y59 := asS (resC y47 0 4)
         let y60 := asL (resC y47 0 5)
         let y61 := t46 y55 y56 y57 y58 y59 y60 n11 n12 n13 n14 s3 l4
         let y62 := y51 && (asB (resC y54 0 0))
         chk ((okR zr46 zo46 y61) || !y62) <|
         let y63 := (y62 && (asB (resC y61 0 0))) && (((asL (resC y47 0 6)).length : Int) == (0 : Int))
         if y63 then
          let y64 := t32 y38 y39 y40 y41 y42 y45 y46
          chk (okR zr32 zo32 y64) <|
          if y63 then
           let y65 := t35 y38 y39 y40 y41 y42 y45 y46
           chk (okR zr35 zo35 y65) <|
           let y66 := t46 (asI (resC y64 0 0)) (asI (resC y64 0 1)) (asI (resC y64 0 2)) (asI (resC y64 0 3)) (asS (resC y64 0 4)) (asL (resC y64 0 5)) (asI (resC y65 0 0)) (asI (resC y65 0 1)) (asI (resC y65 0 2)) (asI (resC y65 0 3)) (asS (resC y65 0 4)) (asL (resC y65 0 5))
           chk ((okR zr46 zo46 y66) || !y63) <|
           some ([.one (.b ((y63 && (asB (resC y66 0 0))) && ((y44.length : Int) == (w64 ((y8.length : Int) + y29)))))], [])
          else
           if y63 then
            none
           else
            if y63 then
             none
            else
             chk (!y63) <|
             some ([.one (.b false)], [])
         else
          if y63 then
           chk (okR zr35 zo35 (t35 y38 y39 y40 y41 y42 y45 y46)) <|
           if y63 then
            none
           else
            chk (!y63) <|
            some ([.one (.b false)], [])
          else
           if y63 then
            none
           else
            if y63 then
             none
            else
             chk (!y63) <|
             some ([.one (.b false)], [])
        else
         if y51 then
          none
         else
          chk (!y51) <|
          let y67 := asI (resC y47 0 0)
          let y68 := asI (resC y47 0 1)
          let y69 := asI (resC y47 0 2)
          let y70 := asI (resC y47 0 3)
          let y71 := asS (resC y47 0 4)
          let y72 := asL (resC y47 0 5)
          chk ((okR zr46 zo46 (t46 y67 y68 y69 y70 y71 y72 n11 n12 n13 n14 s3 l4)) || !false) <|
          some ([.one (.b false)], [])
       else
        if y51 then
         chk (okR zr31 zo31 (t31 y2 y3 y4 y5 y6 y7 y8)) <|
         if y51 then
          none
         else
          chk (!y51) <|
          let y73 := asI (resC y47 0 0)
          let y74 := asI (resC y47 0 1)
          let y75 := asI (resC y47 0 2)
          let y76 := asI (resC y47 0 3)
          let y77 := asS (resC y47 0 4)
          let y78 := asL (resC y47 0 5)
          chk ((okR zr46 zo46 (t46 y73 y74 y75 y76 y77 y78 n11 n12 n13 n14 s3 l4)) || !false) <|
          some ([.one (.b false)], [])
        else
         if y51 then
          none
         else
          chk (!y51) <|
          let y79 := asI (resC y47 0 0)
          let y80 := asI (resC y47 0 1)
          let y81 := asI (resC y47 0 2)
          let y82 := asI (resC y47 0 3)
          let y83 := asS (resC y47 0 4)
          let y84 := asL (resC y47 0 5)
          chk ((okR zr46 zo46 (t46 y79 y80 y81 y82 y83 y84 n11 n12 n13 n14 s3 l4)) || !false) <|
          some ([.one (.b false)], [])) KK (0 : Int) SV.undef SV.undef SV.undef (asI (resC y28 0 0)) (asI (resC y28 0 1)) (asI (resC y28 0 2)) (asI (resC y28 0 3)) (asS (resC y28 0 4)) (asL (resC y28 0 5))
def t11 : Y11 := ta11 t14 t22 t31 t32 t35 t38 t42 t43 t46 t47 t48
def zr11 : List DV := [.one (.b false)]
def zo11 : Rw := []
def A11 : List TA := [.one (.l)]
end
end Go.Den.L11
