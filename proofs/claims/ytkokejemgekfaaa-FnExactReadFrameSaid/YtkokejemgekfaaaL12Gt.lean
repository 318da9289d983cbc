/- The functions' table, and that each is what its twin says. Printed by tw.py. -/
import Derived.Test.YtkokejemgekfaaaL12Tw
import Derived.Test.YtkokejemgekfaaaProg
import Derived.KernelRfl
set_option linter.unusedVariables false
namespace Go.Den.L12
open Go Go.Proofs
noncomputable section
set_option maxRecDepth 100000
def u60 : Int → Int → Int → Rs := Classical.choose (⟨t60, rfl⟩ : ∃ f, f = t60)
theorem u60_eq : u60 = t60 := Classical.choose_spec (⟨t60, rfl⟩ : ∃ f, f = t60)
def u89 : Int → Rs := Classical.choose (⟨t89, rfl⟩ : ∃ f, f = t89)
theorem u89_eq : u89 = t89 := Classical.choose_spec (⟨t89, rfl⟩ : ∃ f, f = t89)
def u84 : ByteArray → Rs := Classical.choose (⟨t84, rfl⟩ : ∃ f, f = t84)
theorem u84_eq : u84 = t84 := Classical.choose_spec (⟨t84, rfl⟩ : ∃ f, f = t84)
def u92 : ByteArray → Int → Int → Rs := Classical.choose (⟨t92, rfl⟩ : ∃ f, f = t92)
theorem u92_eq : u92 = t92 := Classical.choose_spec (⟨t92, rfl⟩ : ∃ f, f = t92)
def u93 : ByteArray → Int → Rs := Classical.choose (⟨t93, rfl⟩ : ∃ f, f = t93)
theorem u93_eq : u93 = t93 := Classical.choose_spec (⟨t93, rfl⟩ : ∃ f, f = t93)
def u119 : Int → Rs := Classical.choose (⟨t119, rfl⟩ : ∃ f, f = t119)
theorem u119_eq : u119 = t119 := Classical.choose_spec (⟨t119, rfl⟩ : ∃ f, f = t119)
def u61 : Int → ByteArray → ByteArray → Int → Int → ByteArray → Rs := Classical.choose (⟨t61, rfl⟩ : ∃ f, f = t61)
theorem u61_eq : u61 = t61 := Classical.choose_spec (⟨t61, rfl⟩ : ∃ f, f = t61)
def u110 : ByteArray → Rs := Classical.choose (⟨t110, rfl⟩ : ∃ f, f = t110)
theorem u110_eq : u110 = t110 := Classical.choose_spec (⟨t110, rfl⟩ : ∃ f, f = t110)
def u111 : Int → Rs := Classical.choose (⟨t111, rfl⟩ : ∃ f, f = t111)
theorem u111_eq : u111 = t111 := Classical.choose_spec (⟨t111, rfl⟩ : ∃ f, f = t111)
def u69 : Int → ByteArray → ByteArray → Int → Int → ByteArray → Rs := Classical.choose (⟨t69, rfl⟩ : ∃ f, f = t69)
theorem u69_eq : u69 = t69 := Classical.choose_spec (⟨t69, rfl⟩ : ∃ f, f = t69)
def u94 : ByteArray → Rs := Classical.choose (⟨t94, rfl⟩ : ∃ f, f = t94)
theorem u94_eq : u94 = t94 := Classical.choose_spec (⟨t94, rfl⟩ : ∃ f, f = t94)
def u16 : Int → Int → Int → Int → ByteArray → ByteArray → Int → Int → ByteArray → Rs := Classical.choose (⟨t16, rfl⟩ : ∃ f, f = t16)
theorem u16_eq : u16 = t16 := Classical.choose_spec (⟨t16, rfl⟩ : ∃ f, f = t16)
def u66 : List (List D) → Int → Rs := Classical.choose (⟨t66, rfl⟩ : ∃ f, f = t66)
theorem u66_eq : u66 = t66 := Classical.choose_spec (⟨t66, rfl⟩ : ∃ f, f = t66)
def u29 : List (List D) → Rs := Classical.choose (⟨t29, rfl⟩ : ∃ f, f = t29)
theorem u29_eq : u29 = t29 := Classical.choose_spec (⟨t29, rfl⟩ : ∃ f, f = t29)
def u81 : Int → Int → Int → Int → ByteArray → ByteArray → Int → Int → ByteArray → Rs := Classical.choose (⟨t81, rfl⟩ : ∃ f, f = t81)
theorem u81_eq : u81 = t81 := Classical.choose_spec (⟨t81, rfl⟩ : ∃ f, f = t81)
def u41 : List (List D) → Rs := Classical.choose (⟨t41, rfl⟩ : ∃ f, f = t41)
theorem u41_eq : u41 = t41 := Classical.choose_spec (⟨t41, rfl⟩ : ∃ f, f = t41)
def u50 : ByteArray → Rs := Classical.choose (⟨t50, rfl⟩ : ∃ f, f = t50)
theorem u50_eq : u50 = t50 := Classical.choose_spec (⟨t50, rfl⟩ : ∃ f, f = t50)
def u86 : ByteArray → Rs := Classical.choose (⟨t86, rfl⟩ : ∃ f, f = t86)
theorem u86_eq : u86 = t86 := Classical.choose_spec (⟨t86, rfl⟩ : ∃ f, f = t86)
def u95 : ByteArray → Bool → Rs := Classical.choose (⟨t95, rfl⟩ : ∃ f, f = t95)
theorem u95_eq : u95 = t95 := Classical.choose_spec (⟨t95, rfl⟩ : ∃ f, f = t95)
def u121 : ByteArray → Bool → Int → Rs := Classical.choose (⟨t121, rfl⟩ : ∃ f, f = t121)
theorem u121_eq : u121 = t121 := Classical.choose_spec (⟨t121, rfl⟩ : ∃ f, f = t121)
def u97 : ByteArray → Bool → Rs := Classical.choose (⟨t97, rfl⟩ : ∃ f, f = t97)
theorem u97_eq : u97 = t97 := Classical.choose_spec (⟨t97, rfl⟩ : ∃ f, f = t97)
def u120 : Int → Rs := Classical.choose (⟨t120, rfl⟩ : ∃ f, f = t120)
theorem u120_eq : u120 = t120 := Classical.choose_spec (⟨t120, rfl⟩ : ∃ f, f = t120)
def u62 : Int → Int → Int → Rs := Classical.choose (⟨t62, rfl⟩ : ∃ f, f = t62)
theorem u62_eq : u62 = t62 := Classical.choose_spec (⟨t62, rfl⟩ : ∃ f, f = t62)
def u63 : Int → ByteArray → ByteArray → Int → Int → ByteArray → Rs := Classical.choose (⟨t63, rfl⟩ : ∃ f, f = t63)
theorem u63_eq : u63 = t63 := Classical.choose_spec (⟨t63, rfl⟩ : ∃ f, f = t63)
def u96 : ByteArray → Rs := Classical.choose (⟨t96, rfl⟩ : ∃ f, f = t96)
theorem u96_eq : u96 = t96 := Classical.choose_spec (⟨t96, rfl⟩ : ∃ f, f = t96)
def u18 : Int → Int → Int → Int → ByteArray → ByteArray → Int → Int → ByteArray → Rs := Classical.choose (⟨t18, rfl⟩ : ∃ f, f = t18)
theorem u18_eq : u18 = t18 := Classical.choose_spec (⟨t18, rfl⟩ : ∃ f, f = t18)
def u67 : List (List D) → Int → Rs := Classical.choose (⟨t67, rfl⟩ : ∃ f, f = t67)
theorem u67_eq : u67 = t67 := Classical.choose_spec (⟨t67, rfl⟩ : ∃ f, f = t67)
def u31 : List (List D) → Rs := Classical.choose (⟨t31, rfl⟩ : ∃ f, f = t31)
theorem u31_eq : u31 = t31 := Classical.choose_spec (⟨t31, rfl⟩ : ∃ f, f = t31)
def u51 : ByteArray → Rs := Classical.choose (⟨t51, rfl⟩ : ∃ f, f = t51)
theorem u51_eq : u51 = t51 := Classical.choose_spec (⟨t51, rfl⟩ : ∃ f, f = t51)
def u65 : Int → ByteArray → ByteArray → Int → Int → ByteArray → Int → ByteArray → ByteArray → Int → Int → ByteArray → Rs := Classical.choose (⟨t65, rfl⟩ : ∃ f, f = t65)
theorem u65_eq : u65 = t65 := Classical.choose_spec (⟨t65, rfl⟩ : ∃ f, f = t65)
def u68 : Int → Int → Int → Int → ByteArray → ByteArray → Int → Int → ByteArray → Int → Int → Int → Int → ByteArray → ByteArray → Int → Int → ByteArray → Rs := Classical.choose (⟨t68, rfl⟩ : ∃ f, f = t68)
theorem u68_eq : u68 = t68 := Classical.choose_spec (⟨t68, rfl⟩ : ∃ f, f = t68)
def u32 : List (List D) → List (List D) → Rs := Classical.choose (⟨t32, rfl⟩ : ∃ f, f = t32)
theorem u32_eq : u32 = t32 := Classical.choose_spec (⟨t32, rfl⟩ : ∃ f, f = t32)
def u98 : Int → Rs := Classical.choose (⟨t98, rfl⟩ : ∃ f, f = t98)
theorem u98_eq : u98 = t98 := Classical.choose_spec (⟨t98, rfl⟩ : ∃ f, f = t98)
def u52 : List (List D) → Int → Rs := Classical.choose (⟨t52, rfl⟩ : ∃ f, f = t52)
theorem u52_eq : u52 = t52 := Classical.choose_spec (⟨t52, rfl⟩ : ∃ f, f = t52)
def u53 : List (List D) → Int → Rs := Classical.choose (⟨t53, rfl⟩ : ∃ f, f = t53)
theorem u53_eq : u53 = t53 := Classical.choose_spec (⟨t53, rfl⟩ : ∃ f, f = t53)
def u12 : ByteArray → Rs := Classical.choose (⟨t12, rfl⟩ : ∃ f, f = t12)
theorem u12_eq : u12 = t12 := Classical.choose_spec (⟨t12, rfl⟩ : ∃ f, f = t12)
theorem e60 : t60 = t60 := rfl
def w60 (vs : List Vr) : Rs := t60 (vI vs 0) (vI vs 1) (vI vs 2)
def p60 (vs : List Vr) : Rs := u60 (vI vs 0) (vI vs 1) (vI vs 2)
theorem pw60 : p60 = w60 := funext fun vs => by unfold p60 w60; rw [u60_eq, e60]
def h60 (xs : List DV) : Bool × List DV × List (List D) := gOf zr60 zo60 (argsT A60 p60 xs)
def la89o1 (t60 : Int → Int → Int → Rs) (s7 : ByteArray) (b8 : Bool) (q1 : Int → Bool → List (List D) → Rs) : Nat → Int → SV → List (List D) → Rs
  | 0, _, _, _ => none
  | m + 1, n6, v9, l10 =>
    let y1 := decide (n6 ≥ (128 : Int))
    if y1 then
     let y2 := ([[.i .u8 (IntKind.wrap .u8 (w64 ((128 : Int) + (n6.tmod (128 : Int)))))]] : List (List D))
     chk ((flatR 1 y2) && decide (l10.length + y2.length ≤ lim)) <|
     la89o1 t60 s7 b8 q1 m (w64 (n6.tdiv (128 : Int))) (.d (.b y1)) (l10 ++ y2)
    else
     q1 n6 y1 l10
def a89 (t60 : Int → Int → Int → Rs) (n1 : Int) : Rs :=
  let y1 := t60 n1 (0 : Int) (562949953421311 : Int)
  chk (okR zr60 zo60 y1) <|
  let y2 := !(asB (resC y1 0 0))
  if y2 then
   some ([.one (.s (⟨#[]⟩ : ByteArray))], [])
  else
   la89o1 t60 (⟨#[]⟩ : ByteArray) y2
    (fun (n19 : Int) (b20 : Bool) (l21 : List (List D)) =>
     let y3 := ([[.i .u8 (IntKind.wrap .u8 n19)]] : List (List D))
     chk ((flatR 1 y3) && decide (l21.length + y3.length ≤ lim)) <|
     let y4 := l21 ++ y3
     chk (isBytes y4) <|
     some ([.one (.s ⟨(bytesD y4).toArray⟩)], [])) KK n1 SV.undef ([] : List (List D))
theorem e89 : a89 u60 = t89 := (by rw [u60_eq] : a89 u60 = a89 t60).trans (by kernel_rfl)
def w89 (vs : List Vr) : Rs := a89 u60 (vI vs 0)
def p89 (vs : List Vr) : Rs := u89 (vI vs 0)
theorem pw89 : p89 = w89 := funext fun vs => by unfold p89 w89; rw [u89_eq, e89]
def h89 (xs : List DV) : Bool × List DV × List (List D) := gOf zr89 zo89 (argsT A89 p89 xs)
def la84o2 (t89 : Int → Rs) (s53 : ByteArray) (n54 : Int) (n55 : Int) (n56 : Int) (b59 : Bool) (q1 : Int → Int → Bool → SV → Rs) : Nat → Int → Int → SV → SV → Rs
  | 0, _, _, _, _ => none
  | m + 1, n57, n58, v60, v61 =>
    let y1 := decide (n58 ≥ (0 : Int))
    if y1 then
     chk (decide (0 ≤ n58 ∧ n58 < s53.size)) <|
     la84o2 t89 s53 n54 n55 n56 b59 q1 m (w64 ((w64 (n57 * (128 : Int))) + ((w64 ((s53.get! n58.toNat).toNat)).tmod (128 : Int)))) (w64 (n58 - (1 : Int))) (.d (.b y1)) (keepV [] v61)
    else
     q1 n57 n58 y1 (keepV [] v61)
def la84o0 (t89 : Int → Rs) (s35 : ByteArray) (n36 : Int) (n37 : Int) (q1 : Int → Int → Int → Bool → Bool → Bool → Rs) (q2 : Int → SV → SV → Bool → SV → SV → Rs) : Nat → Int → SV → SV → SV → SV → SV → Rs
  | 0, _, _, _, _, _, _ => none
  | m + 1, n38, v39, v40, v41, v42, v43 =>
    let y1 := (decide (n38 ≤ (7 : Int))) && (decide (n38 ≤ (s35.size : Int)))
    if y1 then
     la84o2 t89 s35 n36 n37 n38 y1
      (fun (n75 : Int) (n76 : Int) (b77 : Bool) (v78 : SV) =>
       chk (okR zr89 zo89 (t89 n75)) <|
       chk (decide (0 ≤ (0 : Int) ∧ (0 : Int) ≤ n38 ∧ n38 ≤ s35.size)) <|
       let y2 := (asS (resC (t89 n75) 0 0)).toList == (s35.extract (0 : Int).toNat n38.toNat).toList
       if y2 then
        q1 n75 n38 n76 y1 b77 y2
       else
        la84o0 t89 s35 n36 n37 q1 q2 m (w64 (n38 + (1 : Int))) (.d (.i .i64 n75)) (.d (.i .i64 n76)) (.d (.b y1)) (.d (.b b77)) (.d (.b y2))) KK (0 : Int) (w64 (n38 - (1 : Int))) v42 v43
    else
     q2 n38 (keepV [] v39) (keepV [] v40) y1 (keepV [] v42) (keepV [] v43)
def a84 (t89 : Int → Rs) (s1 : ByteArray) : Rs :=
  la84o0 t89 s1 (0 : Int) (0 : Int)
   (fun (n100 : Int) (n101 : Int) (n102 : Int) (b103 : Bool) (b104 : Bool) (b105 : Bool) =>
    some ([.one (.i .i64 n100), .one (.i .i64 n101)], []))
   (fun (n106 : Int) (v107 : SV) (v108 : SV) (b109 : Bool) (v110 : SV) (v111 : SV) =>
    some ([.one (.i .i64 (0 : Int)), .one (.i .i64 (0 : Int))], [])) KK (1 : Int) SV.undef SV.undef SV.undef SV.undef SV.undef
theorem e84 : a84 u89 = t84 := (by rw [u89_eq] : a84 u89 = a84 t89).trans (by kernel_rfl)
def w84 (vs : List Vr) : Rs := a84 u89 (vS vs 0)
def p84 (vs : List Vr) : Rs := u84 (vS vs 0)
theorem pw84 : p84 = w84 := funext fun vs => by unfold p84 w84; rw [u84_eq, e84]
def h84 (xs : List DV) : Bool × List DV × List (List D) := gOf zr84 zo84 (argsT A84 p84 xs)
def la92o0 (t84 : ByteArray → Rs) (s10 : ByteArray) (n12 : Int) (n13 : Int) (q1 : Int → Int → SV → SV → Bool → Bool → SV → List (List D) → Rs) (q2 : Int → Int → Int → Int → Bool → Bool → Bool → List (List D) → Rs) (q3 : Int → Int → SV → SV → Bool → SV → SV → List (List D) → Rs) : Nat → Int → Int → SV → SV → SV → SV → SV → List (List D) → Rs
  | 0, _, _, _, _, _, _, _, _ => none
  | m + 1, n11, n14, v15, v16, v17, v18, v19, l20 =>
    let y1 := decide (n14 < n12)
    if y1 then
     let y2 := (decide (n11 < (0 : Int))) || (decide (n11 > (s10.size : Int)))
     if y2 then
      q1 n11 n14 v15 v16 y1 y2 v19 l20
     else
      chk (decide (0 ≤ n11 ∧ n11 ≤ s10.size)) <|
      let y3 := t84 (s10.extract n11.toNat s10.size)
      chk (okR zr84 zo84 y3) <|
      let y4 := asI (resC y3 1 0)
      let y5 := y4 == (0 : Int)
      if y5 then
       let y6 := asI (resC y3 0 0)
       q2 n11 n14 y6 y4 y1 y2 y5 l20
      else
       let y7 := asI (resC y3 0 0)
       let y8 := ([[.i .i64 y7]] : List (List D))
       chk ((flatR 1 y8) && decide (l20.length + y8.length ≤ lim)) <|
       la92o0 t84 s10 n12 n13 q1 q2 q3 m (w64 (n11 + y4)) (w64 (n14 + (1 : Int))) (.d (.i .i64 y7)) (.d (.i .i64 y4)) (.d (.b y1)) (.d (.b y2)) (.d (.b y5)) (l20 ++ y8)
    else
     q3 n11 n14 (keepV [768] v15) (keepV [768] v16) y1 (keepV [768] v18) (keepV [768] v19) l20
def a92 (t84 : ByteArray → Rs) (s1 : ByteArray) (n2 : Int) (n3 : Int) : Rs :=
  la92o0 t84 s1 n3 (0 : Int)
   (fun (n56 : Int) (n57 : Int) (v58 : SV) (v59 : SV) (b60 : Bool) (b61 : Bool) (v62 : SV) (l63 : List (List D)) =>
    some ([.one (.l l63), .one (.i .i64 (-1 : Int))], []))
   (fun (n64 : Int) (n65 : Int) (n66 : Int) (n67 : Int) (b68 : Bool) (b69 : Bool) (b70 : Bool) (l71 : List (List D)) =>
    some ([.one (.l l71), .one (.i .i64 (-1 : Int))], []))
   (fun (n72 : Int) (n73 : Int) (v74 : SV) (v75 : SV) (b76 : Bool) (v77 : SV) (v78 : SV) (l79 : List (List D)) =>
    some ([.one (.l l79), .one (.i .i64 n72)], [])) KK n2 (0 : Int) SV.undef SV.undef SV.undef SV.undef SV.undef ([] : List (List D))
theorem e92 : a92 u84 = t92 := (by rw [u84_eq] : a92 u84 = a92 t84).trans (by kernel_rfl)
def w92 (vs : List Vr) : Rs := a92 u84 (vS vs 0) (vI vs 1) (vI vs 2)
def p92 (vs : List Vr) : Rs := u92 (vS vs 0) (vI vs 1) (vI vs 2)
theorem pw92 : p92 = w92 := funext fun vs => by unfold p92 w92; rw [u92_eq, e92]
def h92 (xs : List DV) : Bool × List DV × List (List D) := gOf zr92 zo92 (argsT A92 p92 xs)
def a93 (t92 : ByteArray → Int → Int → Rs) (s1 : ByteArray) (n2 : Int) : Rs :=
  let y1 := t92 s1 n2 (1 : Int)
  chk (okR zr92 zo92 y1) <|
  let y2 := asL (resC y1 0 0)
  let y3 := asI (resC y1 1 0)
  let y4 := decide (y3 < (0 : Int))
  chk ((decide (0 ≤ (0 : Int)) && decide ((0 : Int) < y2.length)) || !(!y4)) <|
  let y5 := y2.getD ((0 : Int).toNat) []
  chk ((decide (1 ≤ y5.length) && isF z3 0 y5) || !(!y4)) <|
  if y4 || (decide ((asI (nthD y5 0)) > (w64 ((s1.size : Int) - y3)))) then
   some ([.one (.s (⟨#[]⟩ : ByteArray)), .one (.i .i64 (-1 : Int))], [])
  else
   chk (decide (0 ≤ (0 : Int)) && decide ((0 : Int) < y2.length)) <|
   let y6 := y2.getD ((0 : Int).toNat) []
   chk (decide (1 ≤ y6.length) && isF z3 0 y6) <|
   let y7 := w64 (y3 + (asI (nthD y6 0)))
   chk (decide (0 ≤ y3 ∧ y3 ≤ y7 ∧ y7 ≤ s1.size)) <|
   chk (decide (0 ≤ (0 : Int)) && decide ((0 : Int) < y2.length)) <|
   let y8 := y2.getD ((0 : Int).toNat) []
   chk (decide (1 ≤ y8.length) && isF z3 0 y8) <|
   some ([.one (.s (s1.extract y3.toNat y7.toNat)), .one (.i .i64 (w64 (y3 + (asI (nthD y8 0)))))], [])
theorem e93 : a93 u92 = t93 := (by rw [u92_eq] : a93 u92 = a93 t92).trans (by kernel_rfl)
def w93 (vs : List Vr) : Rs := a93 u92 (vS vs 0) (vI vs 1)
def p93 (vs : List Vr) : Rs := u93 (vS vs 0) (vI vs 1)
theorem pw93 : p93 = w93 := funext fun vs => by unfold p93 w93; rw [u93_eq, e93]
def h93 (xs : List DV) : Bool × List DV × List (List D) := gOf zr93 zo93 (argsT A93 p93 xs)
theorem e119 : t119 = t119 := rfl
def w119 (vs : List Vr) : Rs := t119 (vI vs 0)
def p119 (vs : List Vr) : Rs := u119 (vI vs 0)
theorem pw119 : p119 = w119 := funext fun vs => by unfold p119 w119; rw [u119_eq, e119]
def h119 (xs : List DV) : Bool × List DV × List (List D) := gOf zr119 zo119 (argsT A119 p119 xs)
def a61 (t60 : Int → Int → Int → Rs) (n1 : Int) (s2 : ByteArray) (s3 : ByteArray) (n4 : Int) (n5 : Int) (s6 : ByteArray) : Rs :=
  let y1 := t60 n1 (1 : Int) (22 : Int)
  chk (okR zr60 zo60 y1) <|
  let y2 := t60 n4 (-1000000 : Int) (1000000 : Int)
  let y3 := (((!(asB (resC y1 0 0))) || (decide ((s2.size : Int) > (60 : Int)))) || (decide ((s3.size : Int) > (60 : Int)))) || (decide ((s6.size : Int) > (64 : Int)))
  chk ((okR zr60 zo60 y2) || !(!y3)) <|
  let y4 := t60 n5 (-1000000 : Int) (1000000 : Int)
  let y5 := y3 || (!(asB (resC y2 0 0)))
  chk ((okR zr60 zo60 y4) || !(!y5)) <|
  if y5 || (!(asB (resC y4 0 0))) then
   some ([.one (.b false)], [])
  else
   if (((!(s3.toList == (⟨#[]⟩ : ByteArray).toList)) && (n1 != (9 : Int))) && (n1 != (10 : Int))) && (n1 != (12 : Int)) then
    some ([.one (.b false)], [])
   else
    some ([.one (.b (((s6.toList == (⟨#[]⟩ : ByteArray).toList) || (n1 == (5 : Int))) || (n1 == (6 : Int))))], [])
theorem e61 : a61 u60 = t61 := (by rw [u60_eq] : a61 u60 = a61 t60).trans (by kernel_rfl)
def w61 (vs : List Vr) : Rs := a61 u60 (vI vs 0) (vS vs 1) (vS vs 2) (vI vs 3) (vI vs 4) (vS vs 5)
def p61 (vs : List Vr) : Rs := u61 (vI vs 0) (vS vs 1) (vS vs 2) (vI vs 3) (vI vs 4) (vS vs 5)
theorem pw61 : p61 = w61 := funext fun vs => by unfold p61 w61; rw [u61_eq, e61]
def h61 (xs : List DV) : Bool × List DV × List (List D) := gOf zr61 zo61 (argsT A61 p61 xs)
def a110 (t89 : Int → Rs) (s1 : ByteArray) : Rs :=
  let y1 := t89 (s1.size : Int)
  chk (okR zr89 zo89 y1) <|
  let y2 := asS (resC y1 0 0)
  chk (decide (y2.size + s1.size ≤ lim)) <|
  some ([.one (.s (y2 ++ s1))], [])
theorem e110 : a110 u89 = t110 := (by rw [u89_eq] : a110 u89 = a110 t89).trans (by kernel_rfl)
def w110 (vs : List Vr) : Rs := a110 u89 (vS vs 0)
def p110 (vs : List Vr) : Rs := u110 (vS vs 0)
theorem pw110 : p110 = w110 := funext fun vs => by unfold p110 w110; rw [u110_eq, e110]
def h110 (xs : List DV) : Bool × List DV × List (List D) := gOf zr110 zo110 (argsT A110 p110 xs)
def a111 (t89 : Int → Rs) (n1 : Int) : Rs :=
  if decide (n1 < (0 : Int)) then
   let y1 := t89 (w64 ((w64 ((-2 : Int) * n1)) - (1 : Int)))
   chk (okR zr89 zo89 y1) <|
   some ([.one (.s (asS (resC y1 0 0)))], [])
  else
   let y2 := t89 (w64 ((2 : Int) * n1))
   chk (okR zr89 zo89 y2) <|
   some ([.one (.s (asS (resC y2 0 0)))], [])
theorem e111 : a111 u89 = t111 := (by rw [u89_eq] : a111 u89 = a111 t89).trans (by kernel_rfl)
def w111 (vs : List Vr) : Rs := a111 u89 (vI vs 0)
def p111 (vs : List Vr) : Rs := u111 (vI vs 0)
theorem pw111 : p111 = w111 := funext fun vs => by unfold p111 w111; rw [u111_eq, e111]
def h111 (xs : List DV) : Bool × List DV × List (List D) := gOf zr111 zo111 (argsT A111 p111 xs)
def a69 (t61 : Int → ByteArray → ByteArray → Int → Int → ByteArray → Rs) (t89 : Int → Rs) (t110 : ByteArray → Rs) (t111 : Int → Rs) (n1 : Int) (s2 : ByteArray) (s3 : ByteArray) (n4 : Int) (n5 : Int) (s6 : ByteArray) : Rs :=
  let y1 := t61 n1 s2 s3 n4 n5 s6
  chk (okR zr61 zo61 y1) <|
  if !(asB (resC y1 0 0)) then
   some ([.one (.s (⟨#[]⟩ : ByteArray))], [])
  else
   chk (okR zr89 zo89 (t89 n1)) <|
   chk (okR zr110 zo110 (t110 s2)) <|
   let y2 := asS (resC (t89 n1) 0 0)
   let y3 := asS (resC (t110 s2) 0 0)
   chk (decide (y2.size + y3.size ≤ lim)) <|
   chk (okR zr110 zo110 (t110 s3)) <|
   let y4 := y2 ++ y3
   let y5 := asS (resC (t110 s3) 0 0)
   chk (decide (y4.size + y5.size ≤ lim)) <|
   chk (okR zr111 zo111 (t111 n4)) <|
   let y6 := y4 ++ y5
   let y7 := asS (resC (t111 n4) 0 0)
   chk (decide (y6.size + y7.size ≤ lim)) <|
   chk (okR zr111 zo111 (t111 n5)) <|
   let y8 := y6 ++ y7
   let y9 := asS (resC (t111 n5) 0 0)
   chk (decide (y8.size + y9.size ≤ lim)) <|
   chk (okR zr110 zo110 (t110 s6)) <|
   let y10 := y8 ++ y9
   let y11 := asS (resC (t110 s6) 0 0)
   chk (decide (y10.size + y11.size ≤ lim)) <|
   some ([.one (.s (y10 ++ y11))], [])
theorem e69 : a69 u61 u89 u110 u111 = t69 := (by rw [u61_eq, u89_eq, u110_eq, u111_eq] : a69 u61 u89 u110 u111 = a69 t61 t89 t110 t111).trans (by kernel_rfl)
def w69 (vs : List Vr) : Rs := a69 u61 u89 u110 u111 (vI vs 0) (vS vs 1) (vS vs 2) (vI vs 3) (vI vs 4) (vS vs 5)
def p69 (vs : List Vr) : Rs := u69 (vI vs 0) (vS vs 1) (vS vs 2) (vI vs 3) (vI vs 4) (vS vs 5)
theorem pw69 : p69 = w69 := funext fun vs => by unfold p69 w69; rw [u69_eq, e69]
def h69 (xs : List DV) : Bool × List DV × List (List D) := gOf zr69 zo69 (argsT A69 p69 xs)
def a94 (t69 : Int → ByteArray → ByteArray → Int → Int → ByteArray → Rs) (t92 : ByteArray → Int → Int → Rs) (t93 : ByteArray → Int → Rs) (t119 : Int → Rs) (s1 : ByteArray) : Rs :=
  let y1 := t92 s1 (0 : Int) (1 : Int)
  chk (okR zr92 zo92 y1) <|
  let y2 := t93 s1 (asI (resC y1 1 0))
  chk (okR zr93 zo93 y2) <|
  let y3 := t93 s1 (asI (resC y2 1 0))
  chk (okR zr93 zo93 y3) <|
  let y4 := t92 s1 (asI (resC y3 1 0)) (2 : Int)
  chk (okR zr92 zo92 y4) <|
  let y5 := t93 s1 (asI (resC y4 1 0))
  chk (okR zr93 zo93 y5) <|
  if decide ((asI (resC y5 1 0)) < (0 : Int)) then
   some ([.agg [.i .i64 (0 : Int), .s (⟨#[]⟩ : ByteArray), .s (⟨#[]⟩ : ByteArray), .i .i64 (0 : Int), .i .i64 (0 : Int), .s (⟨#[]⟩ : ByteArray)], .one (.b false)], [])
  else
   let y6 := asL (resC y1 0 0)
   chk (decide (0 ≤ (0 : Int)) && decide ((0 : Int) < y6.length)) <|
   let y7 := y6.getD ((0 : Int).toNat) []
   chk (decide (1 ≤ y7.length) && isF z3 0 y7) <|
   let y8 := asL (resC y4 0 0)
   chk (decide (0 ≤ (0 : Int)) && decide ((0 : Int) < y8.length)) <|
   let y9 := y8.getD ((0 : Int).toNat) []
   chk (decide (1 ≤ y9.length) && isF z3 0 y9) <|
   let y10 := t119 (asI (nthD y9 0))
   chk (okR zr119 zo119 y10) <|
   chk (decide (0 ≤ (1 : Int)) && decide ((1 : Int) < y8.length)) <|
   let y11 := y8.getD ((1 : Int).toNat) []
   chk (decide (1 ≤ y11.length) && isF z3 0 y11) <|
   let y12 := t119 (asI (nthD y11 0))
   chk (okR zr119 zo119 y12) <|
   let y13 := asI (nthD y7 0)
   let y14 := asS (resC y2 0 0)
   let y15 := asS (resC y3 0 0)
   let y16 := asI (resC y10 0 0)
   let y17 := asI (resC y12 0 0)
   let y18 := asS (resC y5 0 0)
   let y19 := t69 y13 y14 y15 y16 y17 y18
   chk (okR zr69 zo69 y19) <|
   if !((asS (resC y19 0 0)).toList == s1.toList) then
    some ([.agg [.i .i64 (0 : Int), .s (⟨#[]⟩ : ByteArray), .s (⟨#[]⟩ : ByteArray), .i .i64 (0 : Int), .i .i64 (0 : Int), .s (⟨#[]⟩ : ByteArray)], .one (.b false)], [])
   else
    some ([.agg [.i .i64 y13, .s y14, .s y15, .i .i64 y16, .i .i64 y17, .s y18], .one (.b true)], [])
theorem e94 : a94 u69 u92 u93 u119 = t94 := (by rw [u69_eq, u92_eq, u93_eq, u119_eq] : a94 u69 u92 u93 u119 = a94 t69 t92 t93 t119).trans (by kernel_rfl)
def w94 (vs : List Vr) : Rs := a94 u69 u92 u93 u119 (vS vs 0)
def p94 (vs : List Vr) : Rs := u94 (vS vs 0)
theorem pw94 : p94 = w94 := funext fun vs => by unfold p94 w94; rw [u94_eq, e94]
def h94 (xs : List DV) : Bool × List DV × List (List D) := gOf zr94 zo94 (argsT A94 p94 xs)
def a16 (t60 : Int → Int → Int → Rs) (t61 : Int → ByteArray → ByteArray → Int → Int → ByteArray → Rs) (n1 : Int) (n2 : Int) (n3 : Int) (n4 : Int) (s5 : ByteArray) (s6 : ByteArray) (n7 : Int) (n8 : Int) (s9 : ByteArray) : Rs :=
  let y1 := t60 n1 (0 : Int) (2 : Int)
  chk (okR zr60 zo60 y1) <|
  let y2 := t60 n2 (1 : Int) (3 : Int)
  let y3 := asB (resC y1 0 0)
  chk ((okR zr60 zo60 y2) || !y3) <|
  let y4 := t60 n3 (1 : Int) (1000000 : Int)
  let y5 := y3 && (asB (resC y2 0 0))
  chk ((okR zr60 zo60 y4) || !y5) <|
  let y6 := t61 n4 s5 s6 n7 n8 s9
  let y7 := y5 && (asB (resC y4 0 0))
  chk ((okR zr61 zo61 y6) || !y7) <|
  some ([.one (.b (y7 && (asB (resC y6 0 0))))], [])
theorem e16 : a16 u60 u61 = t16 := (by rw [u60_eq, u61_eq] : a16 u60 u61 = a16 t60 t61).trans (by kernel_rfl)
def w16 (vs : List Vr) : Rs := a16 u60 u61 (vI vs 0) (vI vs 1) (vI vs 2) (vI vs 3) (vS vs 4) (vS vs 5) (vI vs 6) (vI vs 7) (vS vs 8)
def p16 (vs : List Vr) : Rs := u16 (vI vs 0) (vI vs 1) (vI vs 2) (vI vs 3) (vS vs 4) (vS vs 5) (vI vs 6) (vI vs 7) (vS vs 8)
theorem pw16 : p16 = w16 := funext fun vs => by unfold p16 w16; rw [u16_eq, e16]
def h16 (xs : List DV) : Bool × List DV × List (List D) := gOf zr16 zo16 (argsT A16 p16 xs)
def la66o0 (t16 : Int → Int → Int → Int → ByteArray → ByteArray → Int → Int → ByteArray → Rs) (l7 : List (List D)) (n8 : Int) (b9 : Bool) (q1 : Int → Bool → Bool → Rs) (q2 : Int → Bool → SV → Rs) : Nat → Int → SV → SV → Rs
  | 0, _, _, _ => none
  | m + 1, n10, v11, v12 =>
    let y1 := decide (n10 < (l7.length : Int))
    if y1 then
     let y2 := l7.getD n10.toNat []
     chk (decide (0 ≤ n10) && decide (n10 < l7.length) && isRow z30 y2) <|
     let y3 := t16 (asI (nthD y2 0)) (asI (nthD y2 1)) (asI (nthD y2 2)) (asI (nthD y2 3)) (asS (nthD y2 4)) (asS (nthD y2 5)) (asI (nthD y2 6)) (asI (nthD y2 7)) (asS (nthD y2 8))
     chk (okR zr16 zo16 y3) <|
     let y4 := w64 (n10 - (1 : Int))
     let y5 := l7.getD y4.toNat []
     let y6 := !(asB (resC y3 0 0))
     let y7 := !y6
     let y8 := decide (n10 > (0 : Int))
     chk ((decide (0 ≤ y4) && decide (y4 < l7.length) && isRow z30 y5) || !(y7 && y8)) <|
     let y9 := l7.getD n10.toNat []
     chk ((decide (0 ≤ n10) && decide (n10 < l7.length) && isRow z30 y9) || !(y7 && y8)) <|
     let y10 := w64 (n10 - n8)
     let y11 := l7.getD y10.toNat []
     let y12 := y6 || (y8 && (decide ((asI (nthD y5 0)) > (asI (nthD y9 0)))))
     let y13 := !y12
     let y14 := decide (n10 ≥ n8)
     chk ((decide (0 ≤ y10) && decide (y10 < l7.length) && isRow z30 y11) || !(y13 && y14)) <|
     let y15 := l7.getD n10.toNat []
     chk ((decide (0 ≤ n10) && decide (n10 < l7.length) && isRow z30 y15) || !(y13 && y14)) <|
     let y16 := y12 || (y14 && ((asI (nthD y11 0)) == (asI (nthD y15 0))))
     if y16 then
      q1 n10 y1 y16
     else
      la66o0 t16 l7 n8 b9 q1 q2 m (w64 (n10 + (1 : Int))) (.d (.b y1)) (.d (.b y16))
    else
     q2 n10 y1 (keepV [] v12)
def a66 (t16 : Int → Int → Int → Int → ByteArray → ByteArray → Int → Int → ByteArray → Rs) (l1 : List (List D)) (n2 : Int) : Rs :=
  la66o0 t16 l1 n2 false
   (fun (n25 : Int) (b26 : Bool) (b27 : Bool) =>
    some ([.one (.b false)], []))
   (fun (n28 : Int) (b29 : Bool) (v30 : SV) =>
    some ([.one (.b true)], [])) KK (0 : Int) SV.undef SV.undef
theorem e66 : a66 u16 = t66 := (by rw [u16_eq] : a66 u16 = a66 t16).trans (by kernel_rfl)
def w66 (vs : List Vr) : Rs := a66 u16 (vL vs 0) (vI vs 1)
def p66 (vs : List Vr) : Rs := u66 (vL vs 0) (vI vs 1)
theorem pw66 : p66 = w66 := funext fun vs => by unfold p66 w66; rw [u66_eq, e66]
def h66 (xs : List DV) : Bool × List DV × List (List D) := gOf zr66 zo66 (argsT A66 p66 xs)
def a29 (t66 : List (List D) → Int → Rs) (l1 : List (List D)) : Rs :=
  let y1 := t66 l1 (2 : Int)
  chk (okR zr66 zo66 y1) <|
  some ([.one (.b (asB (resC y1 0 0)))], [])
theorem e29 : a29 u66 = t29 := (by rw [u66_eq] : a29 u66 = a29 t66).trans (by kernel_rfl)
def w29 (vs : List Vr) : Rs := a29 u66 (vL vs 0)
def p29 (vs : List Vr) : Rs := u29 (vL vs 0)
theorem pw29 : p29 = w29 := funext fun vs => by unfold p29 w29; rw [u29_eq, e29]
def h29 (xs : List DV) : Bool × List DV × List (List D) := gOf zr29 zo29 (argsT A29 p29 xs)
def a81 (t69 : Int → ByteArray → ByteArray → Int → Int → ByteArray → Rs) (t89 : Int → Rs) (t110 : ByteArray → Rs) (n1 : Int) (n2 : Int) (n3 : Int) (n4 : Int) (s5 : ByteArray) (s6 : ByteArray) (n7 : Int) (n8 : Int) (s9 : ByteArray) : Rs :=
  chk (okR zr89 zo89 (t89 n1)) <|
  chk (okR zr89 zo89 (t89 n2)) <|
  let y1 := asS (resC (t89 n1) 0 0)
  let y2 := asS (resC (t89 n2) 0 0)
  chk (decide (y1.size + y2.size ≤ lim)) <|
  chk (okR zr89 zo89 (t89 n3)) <|
  let y3 := y1 ++ y2
  let y4 := asS (resC (t89 n3) 0 0)
  chk (decide (y3.size + y4.size ≤ lim)) <|
  let y5 := t69 n4 s5 s6 n7 n8 s9
  chk (okR zr69 zo69 y5) <|
  let y6 := t110 (asS (resC y5 0 0))
  chk (okR zr110 zo110 y6) <|
  let y7 := y3 ++ y4
  let y8 := asS (resC y6 0 0)
  chk (decide (y7.size + y8.size ≤ lim)) <|
  some ([.one (.s (y7 ++ y8))], [])
theorem e81 : a81 u69 u89 u110 = t81 := (by rw [u69_eq, u89_eq, u110_eq] : a81 u69 u89 u110 = a81 t69 t89 t110).trans (by kernel_rfl)
def w81 (vs : List Vr) : Rs := a81 u69 u89 u110 (vI vs 0) (vI vs 1) (vI vs 2) (vI vs 3) (vS vs 4) (vS vs 5) (vI vs 6) (vI vs 7) (vS vs 8)
def p81 (vs : List Vr) : Rs := u81 (vI vs 0) (vI vs 1) (vI vs 2) (vI vs 3) (vS vs 4) (vS vs 5) (vI vs 6) (vI vs 7) (vS vs 8)
theorem pw81 : p81 = w81 := funext fun vs => by unfold p81 w81; rw [u81_eq, e81]
def h81 (xs : List DV) : Bool × List DV × List (List D) := gOf zr81 zo81 (argsT A81 p81 xs)
def la41o1 (t29 : List (List D) → Rs) (t81 : Int → Int → Int → Int → ByteArray → ByteArray → Int → Int → ByteArray → Rs) (l7 : List (List D)) (s8 : ByteArray) (b11 : Bool) (q1 : ByteArray → Int → Bool → Rs) : Nat → ByteArray → Int → SV → Rs
  | 0, _, _, _ => none
  | m + 1, s9, n10, v12 =>
    let y1 := decide (n10 < (l7.length : Int))
    if y1 then
     let y2 := l7.getD n10.toNat []
     chk (decide (0 ≤ n10) && decide (n10 < l7.length) && isRow z30 y2) <|
     let y3 := t81 (asI (nthD y2 0)) (asI (nthD y2 1)) (asI (nthD y2 2)) (asI (nthD y2 3)) (asS (nthD y2 4)) (asS (nthD y2 5)) (asI (nthD y2 6)) (asI (nthD y2 7)) (asS (nthD y2 8))
     chk (okR zr81 zo81 y3) <|
     let y4 := asS (resC y3 0 0)
     chk (decide (s9.size + y4.size ≤ lim)) <|
     la41o1 t29 t81 l7 s8 b11 q1 m (s9 ++ y4) (w64 (n10 + (1 : Int))) (.d (.b y1))
    else
     q1 s9 n10 y1
def a41 (t29 : List (List D) → Rs) (t81 : Int → Int → Int → Int → ByteArray → ByteArray → Int → Int → ByteArray → Rs) (l1 : List (List D)) : Rs :=
  chk (okR zr29 zo29 (t29 l1)) <|
  let y1 := !(asB (resC (t29 l1) 0 0))
  if y1 then
   some ([.one (.s (⟨#[]⟩ : ByteArray))], [])
  else
   la41o1 t29 t81 l1 (⟨#[]⟩ : ByteArray) y1
    (fun (s22 : ByteArray) (n23 : Int) (b24 : Bool) =>
     some ([.one (.s s22)], [])) KK (⟨#[102]⟩ : ByteArray) (0 : Int) SV.undef
theorem e41 : a41 u29 u81 = t41 := (by rw [u29_eq, u81_eq] : a41 u29 u81 = a41 t29 t81).trans (by kernel_rfl)
def w41 (vs : List Vr) : Rs := a41 u29 u81 (vL vs 0)
def p41 (vs : List Vr) : Rs := u41 (vL vs 0)
theorem pw41 : p41 = w41 := funext fun vs => by unfold p41 w41; rw [u41_eq, e41]
def h41 (xs : List DV) : Bool × List DV × List (List D) := gOf zr41 zo41 (argsT A41 p41 xs)
def la50o1 (t41 : List (List D) → Rs) (t92 : ByteArray → Int → Int → Rs) (t93 : ByteArray → Int → Rs) (t94 : ByteArray → Rs) (s7 : ByteArray) (b8 : Bool) (b13 : Bool) (q1 : Int → Int → ByteArray → Bool → Bool → Bool → List (List D) → List (List D) → Int → ByteArray → ByteArray → Int → Int → ByteArray → List (List D) → Rs) (q2 : Int → SV → SV → SV → Bool → SV → List (List D) → Rs) : Nat → Int → SV → SV → SV → SV → SV → List (List D) → Rs
  | 0, _, _, _, _, _, _, _ => none
  | m + 1, n9, v10, v11, v12, v14, v15, l16 =>
    let y1 := decide (n9 < (s7.size : Int))
    if y1 then
     let y2 := t92 s7 n9 (3 : Int)
     chk (okR zr92 zo92 y2) <|
     let y3 := t93 s7 (asI (resC y2 1 0))
     chk (okR zr93 zo93 y3) <|
     let y4 := asS (resC y3 0 0)
     let y5 := t94 y4
     chk (okR zr94 zo94 y5) <|
     let y6 := asI (resC y3 1 0)
     let y7 := asB (resC y5 1 0)
     let y8 := (decide (y6 < (0 : Int))) || (!y7)
     if y8 then
      let y9 := asL (resC y2 0 0)
      let y10 := asI (resC y5 0 0)
      let y11 := asS (resC y5 0 1)
      let y12 := asS (resC y5 0 2)
      let y13 := asI (resC y5 0 3)
      let y14 := asI (resC y5 0 4)
      let y15 := asS (resC y5 0 5)
      q1 n9 y6 y4 y7 y1 y8 l16 y9 y10 y11 y12 y13 y14 y15 ([] : List (List D))
     else
      let y16 := asL (resC y2 0 0)
      chk (decide (0 ≤ (0 : Int)) && decide ((0 : Int) < y16.length)) <|
      let y17 := y16.getD ((0 : Int).toNat) []
      chk (decide (1 ≤ y17.length) && isF z3 0 y17) <|
      chk (decide (0 ≤ (1 : Int)) && decide ((1 : Int) < y16.length)) <|
      let y18 := y16.getD ((1 : Int).toNat) []
      chk (decide (1 ≤ y18.length) && isF z3 0 y18) <|
      chk (decide (0 ≤ (2 : Int)) && decide ((2 : Int) < y16.length)) <|
      let y19 := y16.getD ((2 : Int).toNat) []
      chk (decide (1 ≤ y19.length) && isF z3 0 y19) <|
      let y20 := asI (resC y5 0 0)
      let y21 := asS (resC y5 0 1)
      let y22 := asS (resC y5 0 2)
      let y23 := asI (resC y5 0 3)
      let y24 := asI (resC y5 0 4)
      let y25 := asS (resC y5 0 5)
      let y26 := ([[.i .i64 (asI (nthD y17 0)), .i .i64 (asI (nthD y18 0)), .i .i64 (asI (nthD y19 0)), .i .i64 y20, .s y21, .s y22, .i .i64 y23, .i .i64 y24, .s y25]] : List (List D))
      chk ((flatR 9 y26) && decide (l16.length + y26.length ≤ lim)) <|
      la50o1 t41 t92 t93 t94 s7 b8 b13 q1 q2 m y6 (.d (.i .i64 y6)) (.d (.s y4)) (.d (.b y7)) (.d (.b y1)) (.d (.b y8)) (l16 ++ y26)
    else
     q2 n9 (keepV [704] v10) (keepV [704] v11) (keepV [704] v12) y1 (keepV [704] v15) l16
def a50 (t41 : List (List D) → Rs) (t92 : ByteArray → Int → Int → Rs) (t93 : ByteArray → Int → Rs) (t94 : ByteArray → Rs) (s1 : ByteArray) : Rs :=
  let y1 := ((s1.size : Int) == (0 : Int)) || (decide ((s1.size : Int) > (1600 : Int)))
  if y1 then
   some ([.one (.l ([] : List (List D))), .one (.b false)], [])
  else
   la50o1 t41 t92 t93 t94 s1 false y1
    (fun (n49 : Int) (n50 : Int) (s51 : ByteArray) (b52 : Bool) (b53 : Bool) (b54 : Bool) (l55 : List (List D)) (l56 : List (List D)) (n57 : Int) (s58 : ByteArray) (s59 : ByteArray) (n60 : Int) (n61 : Int) (s62 : ByteArray) (l63 : List (List D)) =>
     some ([.one (.l l63), .one (.b false)], []))
    (fun (n64 : Int) (v65 : SV) (v66 : SV) (v67 : SV) (b68 : Bool) (v69 : SV) (l70 : List (List D)) =>
     chk (okR zr41 zo41 (t41 l70)) <|
     if !((asS (resC (t41 l70) 0 0)).toList == s1.toList) then
      some ([.one (.l ([] : List (List D))), .one (.b false)], [])
     else
      some ([.one (.l l70), .one (.b true)], [])) KK (1 : Int) SV.undef SV.undef SV.undef SV.undef SV.undef ([] : List (List D))
theorem e50 : a50 u41 u92 u93 u94 = t50 := (by rw [u41_eq, u92_eq, u93_eq, u94_eq] : a50 u41 u92 u93 u94 = a50 t41 t92 t93 t94).trans (by kernel_rfl)
def w50 (vs : List Vr) : Rs := a50 u41 u92 u93 u94 (vS vs 0)
def p50 (vs : List Vr) : Rs := u50 (vS vs 0)
theorem pw50 : p50 = w50 := funext fun vs => by unfold p50 w50; rw [u50_eq, e50]
def h50 (xs : List DV) : Bool × List DV × List (List D) := gOf zr50 zo50 (argsT A50 p50 xs)
theorem e86 : t86 = t86 := rfl
def w86 (vs : List Vr) : Rs := t86 (vS vs 0)
def p86 (vs : List Vr) : Rs := u86 (vS vs 0)
theorem pw86 : p86 = w86 := funext fun vs => by unfold p86 w86; rw [u86_eq, e86]
def h86 (xs : List DV) : Bool × List DV × List (List D) := gOf zr86 zo86 (argsT A86 p86 xs)
def a95 (t86 : ByteArray → Rs) (s1 : ByteArray) (b2 : Bool) : Rs :=
  chk (okR zr86 zo86 (t86 s1)) <|
  let y1 := asI (resC (t86 s1) 1 0)
  if b2 || (y1 == (0 : Int)) then
   some ([.one (.i .i64 (0 : Int))], [[.s s1, .b true]])
  else
   chk (decide (0 ≤ y1 ∧ y1 ≤ s1.size)) <|
   some ([.one (.i .i64 (asI (resC (t86 s1) 0 0)))], [[.s (s1.extract y1.toNat s1.size), .b b2]])
theorem e95 : a95 u86 = t95 := (by rw [u86_eq] : a95 u86 = a95 t86).trans (by kernel_rfl)
def w95 (vs : List Vr) : Rs := a95 u86 (vS vs 0) (vB vs 1)
def p95 (vs : List Vr) : Rs := u95 (vS vs 0) (vB vs 1)
theorem pw95 : p95 = w95 := funext fun vs => by unfold p95 w95; rw [u95_eq, e95]
def h95 (xs : List DV) : Bool × List DV × List (List D) := gOf zr95 zo95 (argsT A95 p95 xs)
theorem e121 : t121 = t121 := rfl
def w121 (vs : List Vr) : Rs := t121 (vS vs 0) (vB vs 1) (vI vs 2)
def p121 (vs : List Vr) : Rs := u121 (vS vs 0) (vB vs 1) (vI vs 2)
theorem pw121 : p121 = w121 := funext fun vs => by unfold p121 w121; rw [u121_eq, e121]
def h121 (xs : List DV) : Bool × List DV × List (List D) := gOf zr121 zo121 (argsT A121 p121 xs)
def a97 (t95 : ByteArray → Bool → Rs) (t121 : ByteArray → Bool → Int → Rs) (s1 : ByteArray) (b2 : Bool) : Rs :=
  chk (okR zr95 zo95 (t95 s1 b2)) <|
  let y1 := t121 (asS (outC (t95 s1 b2) 0 0)) (asB (outC (t95 s1 b2) 0 1)) (asI (resC (t95 s1 b2) 0 0))
  chk (okR zr121 zo121 y1) <|
  some ([.one (.s (asS (resC y1 0 0)))], [[.s (asS (outC y1 0 0)), .b (asB (outC y1 0 1))]])
theorem e97 : a97 u95 u121 = t97 := (by rw [u95_eq, u121_eq] : a97 u95 u121 = a97 t95 t121).trans (by kernel_rfl)
def w97 (vs : List Vr) : Rs := a97 u95 u121 (vS vs 0) (vB vs 1)
def p97 (vs : List Vr) : Rs := u97 (vS vs 0) (vB vs 1)
theorem pw97 : p97 = w97 := funext fun vs => by unfold p97 w97; rw [u97_eq, e97]
def h97 (xs : List DV) : Bool × List DV × List (List D) := gOf zr97 zo97 (argsT A97 p97 xs)
theorem e120 : t120 = t120 := rfl
def w120 (vs : List Vr) : Rs := t120 (vI vs 0)
def p120 (vs : List Vr) : Rs := u120 (vI vs 0)
theorem pw120 : p120 = w120 := funext fun vs => by unfold p120 w120; rw [u120_eq, e120]
def h120 (xs : List DV) : Bool × List DV × List (List D) := gOf zr120 zo120 (argsT A120 p120 xs)
theorem e62 : t62 = t62 := rfl
def w62 (vs : List Vr) : Rs := t62 (vI vs 0) (vI vs 1) (vI vs 2)
def p62 (vs : List Vr) : Rs := u62 (vI vs 0) (vI vs 1) (vI vs 2)
theorem pw62 : p62 = w62 := funext fun vs => by unfold p62 w62; rw [u62_eq, e62]
def h62 (xs : List DV) : Bool × List DV × List (List D) := gOf zr62 zo62 (argsT A62 p62 xs)
def a63 (t62 : Int → Int → Int → Rs) (n1 : Int) (s2 : ByteArray) (s3 : ByteArray) (n4 : Int) (n5 : Int) (s6 : ByteArray) : Rs :=
  if ((!(((n1 == (9 : Int)) || (n1 == (10 : Int))) || (n1 == (12 : Int)))) && (!(s3.toList == (⟨#[]⟩ : ByteArray).toList))) || ((!((n1 == (5 : Int)) || (n1 == (6 : Int)))) && (!(s6.toList == (⟨#[]⟩ : ByteArray).toList))) then
   some ([.one (.b false)], [])
  else
   let y1 := t62 n1 (1 : Int) (22 : Int)
   chk (okR zr62 zo62 y1) <|
   let y2 := t62 n4 (-1000000 : Int) (1000000 : Int)
   let y3 := (((asB (resC y1 0 0)) && (decide ((s2.size : Int) ≤ (60 : Int)))) && (decide ((s3.size : Int) ≤ (60 : Int)))) && (decide ((s6.size : Int) ≤ (64 : Int)))
   chk ((okR zr62 zo62 y2) || !y3) <|
   let y4 := t62 n5 (-1000000 : Int) (1000000 : Int)
   let y5 := y3 && (asB (resC y2 0 0))
   chk ((okR zr62 zo62 y4) || !y5) <|
   some ([.one (.b (y5 && (asB (resC y4 0 0))))], [])
theorem e63 : a63 u62 = t63 := (by rw [u62_eq] : a63 u62 = a63 t62).trans (by kernel_rfl)
def w63 (vs : List Vr) : Rs := a63 u62 (vI vs 0) (vS vs 1) (vS vs 2) (vI vs 3) (vI vs 4) (vS vs 5)
def p63 (vs : List Vr) : Rs := u63 (vI vs 0) (vS vs 1) (vS vs 2) (vI vs 3) (vI vs 4) (vS vs 5)
theorem pw63 : p63 = w63 := funext fun vs => by unfold p63 w63; rw [u63_eq, e63]
def h63 (xs : List DV) : Bool × List DV × List (List D) := gOf zr63 zo63 (argsT A63 p63 xs)
def a96 (t63 : Int → ByteArray → ByteArray → Int → Int → ByteArray → Rs) (t95 : ByteArray → Bool → Rs) (t97 : ByteArray → Bool → Rs) (t120 : Int → Rs) (s1 : ByteArray) : Rs :=
  chk (okR zr95 zo95 (t95 s1 false)) <|
  let y1 := t97 (asS (outC (t95 s1 false) 0 0)) (asB (outC (t95 s1 false) 0 1))
  chk (okR zr97 zo97 y1) <|
  let y2 := t97 (asS (outC y1 0 0)) (asB (outC y1 0 1))
  chk (okR zr97 zo97 y2) <|
  let y3 := t95 (asS (outC y2 0 0)) (asB (outC y2 0 1))
  chk (okR zr95 zo95 y3) <|
  let y4 := t120 (asI (resC y3 0 0))
  chk (okR zr120 zo120 y4) <|
  let y5 := t95 (asS (outC y3 0 0)) (asB (outC y3 0 1))
  chk (okR zr95 zo95 y5) <|
  let y6 := t120 (asI (resC y5 0 0))
  chk (okR zr120 zo120 y6) <|
  let y7 := t97 (asS (outC y5 0 0)) (asB (outC y5 0 1))
  chk (okR zr97 zo97 y7) <|
  let y8 := asI (resC (t95 s1 false) 0 0)
  let y9 := asS (resC y1 0 0)
  let y10 := asS (resC y2 0 0)
  let y11 := asI (resC y4 0 0)
  let y12 := asI (resC y6 0 0)
  let y13 := asS (resC y7 0 0)
  let y14 := t63 y8 y9 y10 y11 y12 y13
  let y15 := (asB (outC y7 0 1)) || (!((asS (outC y7 0 0)).toList == (⟨#[]⟩ : ByteArray).toList))
  chk ((okR zr63 zo63 y14) || !(!y15)) <|
  if y15 || (!(asB (resC y14 0 0))) then
   some ([.agg [.i .i64 (0 : Int), .s (⟨#[]⟩ : ByteArray), .s (⟨#[]⟩ : ByteArray), .i .i64 (0 : Int), .i .i64 (0 : Int), .s (⟨#[]⟩ : ByteArray)], .one (.b false)], [])
  else
   some ([.agg [.i .i64 y8, .s y9, .s y10, .i .i64 y11, .i .i64 y12, .s y13], .one (.b true)], [])
theorem e96 : a96 u63 u95 u97 u120 = t96 := (by rw [u63_eq, u95_eq, u97_eq, u120_eq] : a96 u63 u95 u97 u120 = a96 t63 t95 t97 t120).trans (by kernel_rfl)
def w96 (vs : List Vr) : Rs := a96 u63 u95 u97 u120 (vS vs 0)
def p96 (vs : List Vr) : Rs := u96 (vS vs 0)
theorem pw96 : p96 = w96 := funext fun vs => by unfold p96 w96; rw [u96_eq, e96]
def h96 (xs : List DV) : Bool × List DV × List (List D) := gOf zr96 zo96 (argsT A96 p96 xs)
def a18 (t62 : Int → Int → Int → Rs) (t63 : Int → ByteArray → ByteArray → Int → Int → ByteArray → Rs) (n1 : Int) (n2 : Int) (n3 : Int) (n4 : Int) (s5 : ByteArray) (s6 : ByteArray) (n7 : Int) (n8 : Int) (s9 : ByteArray) : Rs :=
  let y1 := t62 n1 (0 : Int) (2 : Int)
  chk (okR zr62 zo62 y1) <|
  let y2 := t62 n2 (1 : Int) (3 : Int)
  let y3 := asB (resC y1 0 0)
  chk ((okR zr62 zo62 y2) || !y3) <|
  let y4 := t62 n3 (1 : Int) (1000000 : Int)
  let y5 := y3 && (asB (resC y2 0 0))
  chk ((okR zr62 zo62 y4) || !y5) <|
  let y6 := t63 n4 s5 s6 n7 n8 s9
  let y7 := y5 && (asB (resC y4 0 0))
  chk ((okR zr63 zo63 y6) || !y7) <|
  some ([.one (.b (y7 && (asB (resC y6 0 0))))], [])
theorem e18 : a18 u62 u63 = t18 := (by rw [u62_eq, u63_eq] : a18 u62 u63 = a18 t62 t63).trans (by kernel_rfl)
def w18 (vs : List Vr) : Rs := a18 u62 u63 (vI vs 0) (vI vs 1) (vI vs 2) (vI vs 3) (vS vs 4) (vS vs 5) (vI vs 6) (vI vs 7) (vS vs 8)
def p18 (vs : List Vr) : Rs := u18 (vI vs 0) (vI vs 1) (vI vs 2) (vI vs 3) (vS vs 4) (vS vs 5) (vI vs 6) (vI vs 7) (vS vs 8)
theorem pw18 : p18 = w18 := funext fun vs => by unfold p18 w18; rw [u18_eq, e18]
def h18 (xs : List DV) : Bool × List DV × List (List D) := gOf zr18 zo18 (argsT A18 p18 xs)
def la67o0 (t18 : Int → Int → Int → Int → ByteArray → ByteArray → Int → Int → ByteArray → Rs) (l11 : List (List D)) (n12 : Int) (b13 : Bool) (l16 : List (List D)) (n17 : Int) (q1 : Int → Int → Bool → Bool → Bool → Int → Int → Int → Int → ByteArray → ByteArray → Int → Int → ByteArray → Rs) (q2 : Int → SV → Int → Bool → SV → SV → Rs) : Nat → Int → SV → Int → SV → SV → SV → Rs
  | 0, _, _, _, _, _, _ => none
  | m + 1, n14, v15, n18, v19, v20, v21 =>
    let y1 := decide (n18 < n17)
    if y1 then
     let y2 := l16.getD n18.toNat []
     chk (decide (0 ≤ n18) && decide (n18 < l16.length) && isRow z30 y2) <|
     let y3 := w64 (n18 - (1 : Int))
     let y4 := l11.getD y3.toNat []
     let y5 := decide (n18 > (0 : Int))
     chk ((decide (0 ≤ y3) && decide (y3 < l11.length) && isRow z30 y4) || !y5) <|
     let k1 := fun (n22 : Int) =>
      let y6 := asI (nthD y2 0)
      let y7 := asI (nthD y2 1)
      let y8 := asI (nthD y2 2)
      let y9 := asI (nthD y2 3)
      let y10 := asS (nthD y2 4)
      let y11 := asS (nthD y2 5)
      let y12 := asI (nthD y2 6)
      let y13 := asI (nthD y2 7)
      let y14 := asS (nthD y2 8)
      let y15 := t18 y6 y7 y8 y9 y10 y11 y12 y13 y14
      chk (okR zr18 zo18 y15) <|
      let y16 := w64 (n18 - (1 : Int))
      let y17 := l11.getD y16.toNat []
      let y18 := !(asB (resC y15 0 0))
      let y19 := decide (n18 > (0 : Int))
      chk ((decide (0 ≤ y16) && decide (y16 < l11.length) && isRow z30 y17) || !((!y18) && y19)) <|
      let y20 := (y18 || (y19 && (decide ((asI (nthD y17 0)) > y6)))) || (decide (n22 > n12))
      if y20 then
       let y21 := y5 && ((asI (nthD y4 0)) != y6)
       q1 n22 n18 y1 y21 y20 y6 y7 y8 y9 y10 y11 y12 y13 y14
      else
       let y22 := y5 && ((asI (nthD y4 0)) != y6)
       la67o0 t18 l11 n12 b13 l16 n17 q1 q2 m n22 (.d (.i .i64 n18)) (w64 (n18 + (1 : Int))) (.d (.b y1)) (.d (.b y22)) (.d (.b y20))
     let y23 := asI (nthD y2 0)
     let y24 := y5 && ((asI (nthD y4 0)) != y23)
     if y24 then
      k1 (1 : Int)
     else
      k1 (w64 (n14 + (1 : Int)))
    else
     q2 n14 (keepV [] v15) n18 y1 (keepV [] v20) (keepV [] v21)
def a67 (t18 : Int → Int → Int → Int → ByteArray → ByteArray → Int → Int → ByteArray → Rs) (l1 : List (List D)) (n2 : Int) : Rs :=
  la67o0 t18 l1 n2 false l1 (l1.length : Int)
   (fun (n54 : Int) (n55 : Int) (b56 : Bool) (b57 : Bool) (b58 : Bool) (n59 : Int) (n60 : Int) (n61 : Int) (n62 : Int) (s63 : ByteArray) (s64 : ByteArray) (n65 : Int) (n66 : Int) (s67 : ByteArray) =>
    some ([.one (.b false)], []))
   (fun (n68 : Int) (v69 : SV) (n70 : Int) (b71 : Bool) (v72 : SV) (v73 : SV) =>
    some ([.one (.b true)], [])) KK (0 : Int) SV.undef (0 : Int) SV.undef SV.undef SV.undef
theorem e67 : a67 u18 = t67 := (by rw [u18_eq] : a67 u18 = a67 t18).trans (by kernel_rfl)
def w67 (vs : List Vr) : Rs := a67 u18 (vL vs 0) (vI vs 1)
def p67 (vs : List Vr) : Rs := u67 (vL vs 0) (vI vs 1)
theorem pw67 : p67 = w67 := funext fun vs => by unfold p67 w67; rw [u67_eq, e67]
def h67 (xs : List DV) : Bool × List DV × List (List D) := gOf zr67 zo67 (argsT A67 p67 xs)
def a31 (t67 : List (List D) → Int → Rs) (l1 : List (List D)) : Rs :=
  let y1 := t67 l1 (2 : Int)
  chk (okR zr67 zo67 y1) <|
  some ([.one (.b (asB (resC y1 0 0)))], [])
theorem e31 : a31 u67 = t31 := (by rw [u67_eq] : a31 u67 = a31 t67).trans (by kernel_rfl)
def w31 (vs : List Vr) : Rs := a31 u67 (vL vs 0)
def p31 (vs : List Vr) : Rs := u31 (vL vs 0)
theorem pw31 : p31 = w31 := funext fun vs => by unfold p31 w31; rw [u31_eq, e31]
def h31 (xs : List DV) : Bool × List DV × List (List D) := gOf zr31 zo31 (argsT A31 p31 xs)
def la51o1 (t31 : List (List D) → Rs) (t95 : ByteArray → Bool → Rs) (t96 : ByteArray → Rs) (t97 : ByteArray → Bool → Rs) (s8 : ByteArray) (b9 : Bool) (b11 : Bool) (q1 : SV → Bool → ByteArray → Bool → List (List D) → Rs) : Nat → SV → SV → ByteArray → Bool → List (List D) → Rs
  | 0, _, _, _, _, _ => none
  | m + 1, v10, v12, s13, b14, l15 =>
    let y1 := (!(s13.toList == (⟨#[]⟩ : ByteArray).toList)) && (!b14)
    if y1 then
     chk (okR zr95 zo95 (t95 s13 b14)) <|
     let y2 := t95 (asS (outC (t95 s13 b14) 0 0)) (asB (outC (t95 s13 b14) 0 1))
     chk (okR zr95 zo95 y2) <|
     let y3 := t95 (asS (outC y2 0 0)) (asB (outC y2 0 1))
     chk (okR zr95 zo95 y3) <|
     let y4 := t97 (asS (outC y3 0 0)) (asB (outC y3 0 1))
     chk (okR zr97 zo97 y4) <|
     let y5 := t96 (asS (resC y4 0 0))
     chk (okR zr96 zo96 y5) <|
     let y6 := ([[.i .i64 (asI (resC (t95 s13 b14) 0 0)), .i .i64 (asI (resC y2 0 0)), .i .i64 (asI (resC y3 0 0)), .i .i64 (asI (resC y5 0 0)), .s (asS (resC y5 0 1)), .s (asS (resC y5 0 2)), .i .i64 (asI (resC y5 0 3)), .i .i64 (asI (resC y5 0 4)), .s (asS (resC y5 0 5))]] : List (List D))
     chk ((flatR 9 y6) && decide (l15.length + y6.length ≤ lim)) <|
     let y7 := asB (resC y5 1 0)
     la51o1 t31 t95 t96 t97 s8 b9 b11 q1 m (.d (.b y7)) (.d (.b y1)) (asS (outC y4 0 0)) ((asB (outC y4 0 1)) || (!y7)) (l15 ++ y6)
    else
     q1 (keepV [1216, 1280] v10) y1 s13 b14 l15
def a51 (t31 : List (List D) → Rs) (t95 : ByteArray → Bool → Rs) (t96 : ByteArray → Rs) (t97 : ByteArray → Bool → Rs) (s1 : ByteArray) : Rs :=
  let y1 := s1.toList == (⟨#[]⟩ : ByteArray).toList
  chk ((decide (0 ≤ (0 : Int) ∧ (0 : Int) < s1.size)) || !(!y1)) <|
  let y2 := y1 || (((s1.get! (0 : Int).toNat).toNat) != (102 : Int))
  if y2 then
   some ([.one (.l ([] : List (List D))), .one (.b false)], [])
  else
   chk (decide (0 ≤ (1 : Int) ∧ (1 : Int) ≤ s1.size)) <|
   la51o1 t31 t95 t96 t97 s1 false y2
    (fun (v29 : SV) (b30 : Bool) (s31 : ByteArray) (b32 : Bool) (l33 : List (List D)) =>
     chk ((okR zr31 zo31 (t31 l33)) || !(!b32)) <|
     if b32 || (!(asB (resC (t31 l33) 0 0))) then
      some ([.one (.l ([] : List (List D))), .one (.b false)], [])
     else
      some ([.one (.l l33), .one (.b true)], [])) KK SV.undef SV.undef (s1.extract (1 : Int).toNat s1.size) false ([] : List (List D))
theorem e51 : a51 u31 u95 u96 u97 = t51 := (by rw [u31_eq, u95_eq, u96_eq, u97_eq] : a51 u31 u95 u96 u97 = a51 t31 t95 t96 t97).trans (by kernel_rfl)
def w51 (vs : List Vr) : Rs := a51 u31 u95 u96 u97 (vS vs 0)
def p51 (vs : List Vr) : Rs := u51 (vS vs 0)
theorem pw51 : p51 = w51 := funext fun vs => by unfold p51 w51; rw [u51_eq, e51]
def h51 (xs : List DV) : Bool × List DV × List (List D) := gOf zr51 zo51 (argsT A51 p51 xs)
theorem e65 : t65 = t65 := rfl
def w65 (vs : List Vr) : Rs := t65 (vI vs 0) (vS vs 1) (vS vs 2) (vI vs 3) (vI vs 4) (vS vs 5) (vI vs 6) (vS vs 7) (vS vs 8) (vI vs 9) (vI vs 10) (vS vs 11)
def p65 (vs : List Vr) : Rs := u65 (vI vs 0) (vS vs 1) (vS vs 2) (vI vs 3) (vI vs 4) (vS vs 5) (vI vs 6) (vS vs 7) (vS vs 8) (vI vs 9) (vI vs 10) (vS vs 11)
theorem pw65 : p65 = w65 := funext fun vs => by unfold p65 w65; rw [u65_eq, e65]
def h65 (xs : List DV) : Bool × List DV × List (List D) := gOf zr65 zo65 (argsT A65 p65 xs)
def a68 (t65 : Int → ByteArray → ByteArray → Int → Int → ByteArray → Int → ByteArray → ByteArray → Int → Int → ByteArray → Rs) (n1 : Int) (n2 : Int) (n3 : Int) (n4 : Int) (s5 : ByteArray) (s6 : ByteArray) (n7 : Int) (n8 : Int) (s9 : ByteArray) (n10 : Int) (n11 : Int) (n12 : Int) (n13 : Int) (s14 : ByteArray) (s15 : ByteArray) (n16 : Int) (n17 : Int) (s18 : ByteArray) : Rs :=
  if n1 != n10 then
   some ([.one (.b false)], [])
  else
   if n2 != n11 then
    some ([.one (.b false)], [])
   else
    if n3 != n12 then
     some ([.one (.b false)], [])
    else
     let y1 := t65 n4 s5 s6 n7 n8 s9 n13 s14 s15 n16 n17 s18
     chk (okR zr65 zo65 y1) <|
     if !(asB (resC y1 0 0)) then
      some ([.one (.b false)], [])
     else
      some ([.one (.b true)], [])
theorem e68 : a68 u65 = t68 := (by rw [u65_eq] : a68 u65 = a68 t65).trans (by kernel_rfl)
def w68 (vs : List Vr) : Rs := a68 u65 (vI vs 0) (vI vs 1) (vI vs 2) (vI vs 3) (vS vs 4) (vS vs 5) (vI vs 6) (vI vs 7) (vS vs 8) (vI vs 9) (vI vs 10) (vI vs 11) (vI vs 12) (vS vs 13) (vS vs 14) (vI vs 15) (vI vs 16) (vS vs 17)
def p68 (vs : List Vr) : Rs := u68 (vI vs 0) (vI vs 1) (vI vs 2) (vI vs 3) (vS vs 4) (vS vs 5) (vI vs 6) (vI vs 7) (vS vs 8) (vI vs 9) (vI vs 10) (vI vs 11) (vI vs 12) (vS vs 13) (vS vs 14) (vI vs 15) (vI vs 16) (vS vs 17)
theorem pw68 : p68 = w68 := funext fun vs => by unfold p68 w68; rw [u68_eq, e68]
def h68 (xs : List DV) : Bool × List DV × List (List D) := gOf zr68 zo68 (argsT A68 p68 xs)
def la32o1 (t68 : Int → Int → Int → Int → ByteArray → ByteArray → Int → Int → ByteArray → Int → Int → Int → Int → ByteArray → ByteArray → Int → Int → ByteArray → Rs) (l8 : List (List D)) (l9 : List (List D)) (b10 : Bool) (b12 : Bool) (q1 : Int → Bool → Bool → Rs) (q2 : Int → Bool → SV → Rs) : Nat → Int → SV → SV → Rs
  | 0, _, _, _ => none
  | m + 1, n11, v13, v14 =>
    let y1 := decide (n11 < (l8.length : Int))
    if y1 then
     let y2 := l8.getD n11.toNat []
     chk (decide (0 ≤ n11) && decide (n11 < l8.length) && isRow z30 y2) <|
     let y3 := l9.getD n11.toNat []
     chk (decide (0 ≤ n11) && decide (n11 < l9.length) && isRow z30 y3) <|
     let y4 := t68 (asI (nthD y2 0)) (asI (nthD y2 1)) (asI (nthD y2 2)) (asI (nthD y2 3)) (asS (nthD y2 4)) (asS (nthD y2 5)) (asI (nthD y2 6)) (asI (nthD y2 7)) (asS (nthD y2 8)) (asI (nthD y3 0)) (asI (nthD y3 1)) (asI (nthD y3 2)) (asI (nthD y3 3)) (asS (nthD y3 4)) (asS (nthD y3 5)) (asI (nthD y3 6)) (asI (nthD y3 7)) (asS (nthD y3 8))
     chk (okR zr68 zo68 y4) <|
     let y5 := !(asB (resC y4 0 0))
     if y5 then
      q1 n11 y1 y5
     else
      la32o1 t68 l8 l9 b10 b12 q1 q2 m (w64 (n11 + (1 : Int))) (.d (.b y1)) (.d (.b y5))
    else
     q2 n11 y1 (keepV [] v14)
def a32 (t68 : Int → Int → Int → Int → ByteArray → ByteArray → Int → Int → ByteArray → Int → Int → Int → Int → ByteArray → ByteArray → Int → Int → ByteArray → Rs) (l1 : List (List D)) (l2 : List (List D)) : Rs :=
  let y1 := (l1.length : Int) != (l2.length : Int)
  if y1 then
   some ([.one (.b false)], [])
  else
   la32o1 t68 l1 l2 false y1
    (fun (n28 : Int) (b29 : Bool) (b30 : Bool) =>
     some ([.one (.b false)], []))
    (fun (n31 : Int) (b32 : Bool) (v33 : SV) =>
     some ([.one (.b true)], [])) KK (0 : Int) SV.undef SV.undef
theorem e32 : a32 u68 = t32 := (by rw [u68_eq] : a32 u68 = a32 t68).trans (by kernel_rfl)
def w32 (vs : List Vr) : Rs := a32 u68 (vL vs 0) (vL vs 1)
def p32 (vs : List Vr) : Rs := u32 (vL vs 0) (vL vs 1)
theorem pw32 : p32 = w32 := funext fun vs => by unfold p32 w32; rw [u32_eq, e32]
def h32 (xs : List DV) : Bool × List DV × List (List D) := gOf zr32 zo32 (argsT A32 p32 xs)
theorem e98 : t98 = t98 := rfl
def w98 (vs : List Vr) : Rs := t98 (vI vs 0)
def p98 (vs : List Vr) : Rs := u98 (vI vs 0)
theorem pw98 : p98 = w98 := funext fun vs => by unfold p98 w98; rw [u98_eq, e98]
def h98 (xs : List DV) : Bool × List DV × List (List D) := gOf zr98 zo98 (argsT A98 p98 xs)
def la52o0 (t98 : Int → Rs) (n8 : Int) (q1 : Int → Int → Bool → List (List D) → Rs) : Nat → Int → Int → SV → List (List D) → Rs
  | 0, _, _, _, _ => none
  | m + 1, n7, n9, v10, l11 =>
    let y1 := decide (n9 < (l11.length : Int))
    if y1 then
     chk (decide (0 ≤ n9) && decide (n9 < l11.length)) <|
     chk (decide (1 ≤ 9 ∧ (n9.toNat) < l11.length)) <|
     let y2 := stR l11 (n9.toNat) 0 [.i .i64 n7]
     chk (decide (0 ≤ n9) && decide (n9 < y2.length)) <|
     chk (decide (2 ≤ 9 ∧ (n9.toNat) < y2.length)) <|
     let y3 := w64 (n7 + (1 : Int))
     let y4 := stR y2 (n9.toNat) 1 [.i .i64 y3]
     chk (decide (0 ≤ n9) && decide (n9 < y4.length)) <|
     chk (decide (3 ≤ 9 ∧ (n9.toNat) < y4.length)) <|
     let y5 := w64 (y3 + (1 : Int))
     let y6 := stR y4 (n9.toNat) 2 [.i .i64 y5]
     chk (decide (0 ≤ n9) && decide (n9 < y6.length)) <|
     chk (decide (4 ≤ 9 ∧ (n9.toNat) < y6.length)) <|
     let y7 := w64 (y5 + (1 : Int))
     let y8 := w64 (y7 + (1 : Int))
     let y9 := t98 y8
     chk (okR zr98 zo98 y9) <|
     let y10 := stR y6 (n9.toNat) 3 [.i .i64 y7]
     chk (decide (0 ≤ n9) && decide (n9 < y10.length)) <|
     chk (decide (5 ≤ 9 ∧ (n9.toNat) < y10.length)) <|
     let y11 := w64 (y8 + (1 : Int))
     let y12 := t98 y11
     chk (okR zr98 zo98 y12) <|
     let y13 := stR y10 (n9.toNat) 4 [.s (asS (resC y9 0 0))]
     chk (decide (0 ≤ n9) && decide (n9 < y13.length)) <|
     chk (decide (6 ≤ 9 ∧ (n9.toNat) < y13.length)) <|
     let y14 := stR y13 (n9.toNat) 5 [.s (asS (resC y12 0 0))]
     chk (decide (0 ≤ n9) && decide (n9 < y14.length)) <|
     chk (decide (7 ≤ 9 ∧ (n9.toNat) < y14.length)) <|
     let y15 := w64 (y11 + (1 : Int))
     let y16 := stR y14 (n9.toNat) 6 [.i .i64 y15]
     chk (decide (0 ≤ n9) && decide (n9 < y16.length)) <|
     chk (decide (8 ≤ 9 ∧ (n9.toNat) < y16.length)) <|
     let y17 := w64 (y15 + (1 : Int))
     let y18 := w64 (y17 + (1 : Int))
     let y19 := t98 y18
     chk (okR zr98 zo98 y19) <|
     let y20 := stR y16 (n9.toNat) 7 [.i .i64 y17]
     chk (decide (0 ≤ n9) && decide (n9 < y20.length)) <|
     chk (decide (9 ≤ 9 ∧ (n9.toNat) < y20.length)) <|
     la52o0 t98 n8 q1 m (w64 (y18 + (1 : Int))) (w64 (n9 + (1 : Int))) (.d (.b y1)) (stR y20 (n9.toNat) 8 [.s (asS (resC y19 0 0))])
    else
     q1 n7 n9 y1 l11
def a52 (t98 : Int → Rs) (l1 : List (List D)) (n2 : Int) : Rs :=
  la52o0 t98 (0 : Int)
   (fun (n21 : Int) (n22 : Int) (b23 : Bool) (l24 : List (List D)) =>
    some ([.one (.i .i64 n21)], [[.l l24]])) KK n2 (0 : Int) SV.undef l1
theorem e52 : a52 u98 = t52 := (by rw [u98_eq] : a52 u98 = a52 t98).trans (by kernel_rfl)
def w52 (vs : List Vr) : Rs := a52 u98 (vL vs 0) (vI vs 1)
def p52 (vs : List Vr) : Rs := u52 (vL vs 0) (vI vs 1)
theorem pw52 : p52 = w52 := funext fun vs => by unfold p52 w52; rw [u52_eq, e52]
def h52 (xs : List DV) : Bool × List DV × List (List D) := gOf zr52 zo52 (argsT A52 p52 xs)
def la53o0 (t98 : Int → Rs) (l7 : List (List D)) (n9 : Int) (q1 : Int → Int → Bool → Bool → SV → SV → SV → SV → SV → SV → SV → SV → Rs) (q2 : Int → Int → Bool → Bool → Bool → SV → SV → SV → SV → SV → SV → SV → Rs) (q3 : Int → Int → Bool → Bool → Bool → Bool → SV → SV → SV → SV → SV → SV → Rs) (q4 : Int → Int → Bool → Bool → Bool → Bool → Bool → SV → SV → SV → SV → SV → Rs) (q5 : Int → Int → Bool → Bool → Bool → Bool → Bool → Bool → SV → SV → SV → SV → Rs) (q6 : Int → Int → Bool → Bool → Bool → Bool → Bool → Bool → Bool → SV → SV → SV → Rs) (q7 : Int → Int → Bool → Bool → Bool → Bool → Bool → Bool → Bool → Bool → SV → SV → Rs) (q8 : Int → Int → Bool → Bool → Bool → Bool → Bool → Bool → Bool → Bool → Bool → SV → Rs) (q9 : Int → Int → Bool → Bool → Bool → Bool → Bool → Bool → Bool → Bool → Bool → Bool → Rs) (q10 : Int → Int → Bool → SV → SV → SV → SV → SV → SV → SV → SV → SV → Rs) : Nat → Int → Int → SV → SV → SV → SV → SV → SV → SV → SV → SV → SV → Rs
  | 0, _, _, _, _, _, _, _, _, _, _, _, _ => none
  | m + 1, n8, n10, v11, v12, v13, v14, v15, v16, v17, v18, v19, v20 =>
    let y1 := decide (n10 < (l7.length : Int))
    if y1 then
     let y2 := l7.getD n10.toNat []
     chk (decide (0 ≤ n10) && decide (n10 < l7.length) && isRow z30 y2) <|
     let y3 := (asI (nthD y2 0)) != n8
     if y3 then
      q1 n8 n10 y1 y3 v13 v14 v15 v16 v17 v18 v19 v20
     else
      let y4 := l7.getD n10.toNat []
      chk (decide (0 ≤ n10) && decide (n10 < l7.length) && isRow z30 y4) <|
      let y5 := w64 (n8 + (1 : Int))
      let y6 := (asI (nthD y4 1)) != y5
      if y6 then
       q2 y5 n10 y1 y3 y6 v14 v15 v16 v17 v18 v19 v20
      else
       let y7 := l7.getD n10.toNat []
       chk (decide (0 ≤ n10) && decide (n10 < l7.length) && isRow z30 y7) <|
       let y8 := w64 (y5 + (1 : Int))
       let y9 := (asI (nthD y7 2)) != y8
       if y9 then
        q3 y8 n10 y1 y3 y6 y9 v15 v16 v17 v18 v19 v20
       else
        let y10 := l7.getD n10.toNat []
        chk (decide (0 ≤ n10) && decide (n10 < l7.length) && isRow z30 y10) <|
        let y11 := w64 (y8 + (1 : Int))
        let y12 := (asI (nthD y10 3)) != y11
        if y12 then
         q4 y11 n10 y1 y3 y6 y9 y12 v16 v17 v18 v19 v20
        else
         let y13 := l7.getD n10.toNat []
         chk (decide (0 ≤ n10) && decide (n10 < l7.length) && isRow z30 y13) <|
         let y14 := w64 (y11 + (1 : Int))
         let y15 := t98 y14
         chk (okR zr98 zo98 y15) <|
         let y16 := !((asS (nthD y13 4)).toList == (asS (resC y15 0 0)).toList)
         if y16 then
          q5 y14 n10 y1 y3 y6 y9 y12 y16 v17 v18 v19 v20
         else
          let y17 := l7.getD n10.toNat []
          chk (decide (0 ≤ n10) && decide (n10 < l7.length) && isRow z30 y17) <|
          let y18 := w64 (y14 + (1 : Int))
          let y19 := t98 y18
          chk (okR zr98 zo98 y19) <|
          let y20 := !((asS (nthD y17 5)).toList == (asS (resC y19 0 0)).toList)
          if y20 then
           q6 y18 n10 y1 y3 y6 y9 y12 y16 y20 v18 v19 v20
          else
           let y21 := l7.getD n10.toNat []
           chk (decide (0 ≤ n10) && decide (n10 < l7.length) && isRow z30 y21) <|
           let y22 := w64 (y18 + (1 : Int))
           let y23 := (asI (nthD y21 6)) != y22
           if y23 then
            q7 y22 n10 y1 y3 y6 y9 y12 y16 y20 y23 v19 v20
           else
            let y24 := l7.getD n10.toNat []
            chk (decide (0 ≤ n10) && decide (n10 < l7.length) && isRow z30 y24) <|
            let y25 := w64 (y22 + (1 : Int))
            let y26 := (asI (nthD y24 7)) != y25
            if y26 then
             q8 y25 n10 y1 y3 y6 y9 y12 y16 y20 y23 y26 v20
            else
             let y27 := l7.getD n10.toNat []
             chk (decide (0 ≤ n10) && decide (n10 < l7.length) && isRow z30 y27) <|
             let y28 := w64 (y25 + (1 : Int))
             let y29 := t98 y28
             chk (okR zr98 zo98 y29) <|
             let y30 := !((asS (nthD y27 8)).toList == (asS (resC y29 0 0)).toList)
             if y30 then
              q9 y28 n10 y1 y3 y6 y9 y12 y16 y20 y23 y26 y30
             else
              la53o0 t98 l7 n9 q1 q2 q3 q4 q5 q6 q7 q8 q9 q10 m (w64 (y28 + (1 : Int))) (w64 (n10 + (1 : Int))) (.d (.b y1)) (.d (.b y3)) (.d (.b y6)) (.d (.b y9)) (.d (.b y12)) (.d (.b y16)) (.d (.b y20)) (.d (.b y23)) (.d (.b y26)) (.d (.b y30))
    else
     q10 n8 n10 y1 (keepV [] v12) (keepV [] v13) (keepV [] v14) (keepV [] v15) (keepV [] v16) (keepV [] v17) (keepV [] v18) (keepV [] v19) (keepV [] v20)
def a53 (t98 : Int → Rs) (l1 : List (List D)) (n2 : Int) : Rs :=
  la53o0 t98 l1 (0 : Int)
   (fun (n155 : Int) (n156 : Int) (b157 : Bool) (b158 : Bool) (v159 : SV) (v160 : SV) (v161 : SV) (v162 : SV) (v163 : SV) (v164 : SV) (v165 : SV) (v166 : SV) =>
    some ([.one (.i .i64 (-1 : Int))], []))
   (fun (n167 : Int) (n168 : Int) (b169 : Bool) (b170 : Bool) (b171 : Bool) (v172 : SV) (v173 : SV) (v174 : SV) (v175 : SV) (v176 : SV) (v177 : SV) (v178 : SV) =>
    some ([.one (.i .i64 (-1 : Int))], []))
   (fun (n179 : Int) (n180 : Int) (b181 : Bool) (b182 : Bool) (b183 : Bool) (b184 : Bool) (v185 : SV) (v186 : SV) (v187 : SV) (v188 : SV) (v189 : SV) (v190 : SV) =>
    some ([.one (.i .i64 (-1 : Int))], []))
   (fun (n191 : Int) (n192 : Int) (b193 : Bool) (b194 : Bool) (b195 : Bool) (b196 : Bool) (b197 : Bool) (v198 : SV) (v199 : SV) (v200 : SV) (v201 : SV) (v202 : SV) =>
    some ([.one (.i .i64 (-1 : Int))], []))
   (fun (n203 : Int) (n204 : Int) (b205 : Bool) (b206 : Bool) (b207 : Bool) (b208 : Bool) (b209 : Bool) (b210 : Bool) (v211 : SV) (v212 : SV) (v213 : SV) (v214 : SV) =>
    some ([.one (.i .i64 (-1 : Int))], []))
   (fun (n215 : Int) (n216 : Int) (b217 : Bool) (b218 : Bool) (b219 : Bool) (b220 : Bool) (b221 : Bool) (b222 : Bool) (b223 : Bool) (v224 : SV) (v225 : SV) (v226 : SV) =>
    some ([.one (.i .i64 (-1 : Int))], []))
   (fun (n227 : Int) (n228 : Int) (b229 : Bool) (b230 : Bool) (b231 : Bool) (b232 : Bool) (b233 : Bool) (b234 : Bool) (b235 : Bool) (b236 : Bool) (v237 : SV) (v238 : SV) =>
    some ([.one (.i .i64 (-1 : Int))], []))
   (fun (n239 : Int) (n240 : Int) (b241 : Bool) (b242 : Bool) (b243 : Bool) (b244 : Bool) (b245 : Bool) (b246 : Bool) (b247 : Bool) (b248 : Bool) (b249 : Bool) (v250 : SV) =>
    some ([.one (.i .i64 (-1 : Int))], []))
   (fun (n251 : Int) (n252 : Int) (b253 : Bool) (b254 : Bool) (b255 : Bool) (b256 : Bool) (b257 : Bool) (b258 : Bool) (b259 : Bool) (b260 : Bool) (b261 : Bool) (b262 : Bool) =>
    some ([.one (.i .i64 (-1 : Int))], []))
   (fun (n263 : Int) (n264 : Int) (b265 : Bool) (v266 : SV) (v267 : SV) (v268 : SV) (v269 : SV) (v270 : SV) (v271 : SV) (v272 : SV) (v273 : SV) (v274 : SV) =>
    some ([.one (.i .i64 n263)], [])) KK n2 (0 : Int) SV.undef SV.undef SV.undef SV.undef SV.undef SV.undef SV.undef SV.undef SV.undef SV.undef
theorem e53 : a53 u98 = t53 := (by rw [u98_eq] : a53 u98 = a53 t98).trans (by kernel_rfl)
def w53 (vs : List Vr) : Rs := a53 u98 (vL vs 0) (vI vs 1)
def p53 (vs : List Vr) : Rs := u53 (vL vs 0) (vI vs 1)
theorem pw53 : p53 = w53 := funext fun vs => by unfold p53 w53; rw [u53_eq, e53]
def h53 (xs : List DV) : Bool × List DV × List (List D) := gOf zr53 zo53 (argsT A53 p53 xs)
def a12 (t32 : List (List D) → List (List D) → Rs) (t50 : ByteArray → Rs) (t51 : ByteArray → Rs) (t52 : List (List D) → Int → Rs) (t53 : List (List D) → Int → Rs) (s1 : ByteArray) : Rs :=
  if decide ((s1.size : Int) > (1048576 : Int)) then
   some ([.one (.b true)], [])
  else
   chk (okR zr50 zo50 (t50 s1)) <|
   chk (okR zr51 zo51 (t51 s1)) <|
   let y1 := asL (resC (t51 s1) 0 0)
   let y2 := asL (resC (t50 s1) 0 0)
   let y3 := t32 y1 y2
   chk (okR zr32 zo32 y3) <|
   let y4 := asB (resC (t50 s1) 1 0)
   if (!(asB (resC y3 0 0))) || (!((asB (resC (t51 s1) 1 0)) == y4)) then
    some ([.one (.b false)], [])
   else
    let y5 := t52 y1 (1 : Int)
    chk (okR zr52 zo52 y5) <|
    let y6 := asL (outC y5 0 0)
    let y7 := t53 y6 (1 : Int)
    chk (okR zr53 zo53 y7) <|
    let y8 := asI (resC y7 0 0)
    if decide (y8 < (0 : Int)) then
     some ([.one (.b false)], [])
    else
     let y9 := asI (resC y5 0 0)
     if y8 != y9 then
      some ([.one (.b false)], [])
     else
      chk (okR zr51 zo51 (t51 s1)) <|
      let y10 := t32 (asL (resC (t51 s1) 0 0)) y2
      chk (okR zr32 zo32 y10) <|
      if (!(asB (resC y10 0 0))) || (!((asB (resC (t51 s1) 1 0)) == y4)) then
       some ([.one (.b false)], [])
      else
       let y11 := t53 y6 (1 : Int)
       chk (okR zr53 zo53 y11) <|
       let y12 := asI (resC y11 0 0)
       if decide (y12 < (0 : Int)) then
        some ([.one (.b false)], [])
       else
        if y12 != y9 then
         some ([.one (.b false)], [])
        else
         some ([.one (.b true)], [])
theorem e12 : a12 u32 u50 u51 u52 u53 = t12 := (by rw [u32_eq, u50_eq, u51_eq, u52_eq, u53_eq] : a12 u32 u50 u51 u52 u53 = a12 t32 t50 t51 t52 t53).trans (by kernel_rfl)
def w12 (vs : List Vr) : Rs := a12 u32 u50 u51 u52 u53 (vS vs 0)
def p12 (vs : List Vr) : Rs := u12 (vS vs 0)
theorem pw12 : p12 = w12 := funext fun vs => by unfold p12 w12; rw [u12_eq, e12]
def h12 (xs : List DV) : Bool × List DV × List (List D) := gOf zr12 zo12 (argsT A12 p12 xs)
def sg60 : Sig := ⟨[.bor, .bor, .bor], .sc [.one (.b false)], [0, 1, 2, 6], []⟩
def sg89 : Sig := ⟨[.bor], .sc [.one (.s ⟨#[]⟩)], [0, 2, 3, 6, 9], []⟩
def sg84 : Sig := ⟨[.bor], .sc [.one (.i .i64 0), .one (.i .i64 0)], [0, 2, 3, 4, 5, 6, 14, 20, 36], [(9, [(0, 0, []), (1, 0, []), (2, 0, []), (3, 0, []), (4, 0, []), (5, 0, [])])]⟩
def sg92 : Sig := ⟨[.bor, .bor, .bor], .fresh [[some (3, 1)], [none]], [0, 1, 2, 6, 7, 8, 9, 10, 11, 15, 25, 35], []⟩
def sg93 : Sig := ⟨[.bor, .bor], .sc [.one (.s ⟨#[]⟩), .one (.i .i64 0)], [0, 1, 4, 5, 6, 7, 25], [(4, [(0, 0, []), (1, 0, []), (2, 0, []), (3, 0, []), (4, 0, []), (5, 0, []), (6, 0, []), (7, 0, []), (8, 0, []), (9, 0, []), (10, 0, []), (11, 0, []), (12, 0, []), (13, 0, []), (14, 0, [])])]⟩
def sg119 : Sig := ⟨[.bor], .sc [.one (.i .i64 0)], [0, 2, 5], []⟩
def sg61 : Sig := ⟨[.bor], .sc [.one (.b false)], [0, 1, 2, 36, 54], []⟩
def sg110 : Sig := ⟨[.bor], .sc [.one (.s ⟨#[]⟩)], [0, 2], []⟩
def sg111 : Sig := ⟨[.bor], .sc [.one (.s ⟨#[]⟩)], [0, 2, 4], []⟩
def sg69 : Sig := ⟨[.bor], .sc [.one (.s ⟨#[]⟩)], [0, 1, 2, 5], [(3, [(0, 0, []), (1, 0, []), (2, 0, []), (3, 0, []), (4, 0, []), (5, 0, []), (6, 0, []), (7, 0, []), (8, 0, []), (9, 0, []), (10, 0, []), (11, 0, []), (12, 0, []), (13, 0, []), (14, 0, []), (15, 0, []), (16, 0, []), (17, 0, []), (18, 0, []), (19, 0, []), (20, 0, []), (21, 0, []), (22, 0, []), (23, 0, [])])]⟩
def sg94 : Sig := ⟨[.bor], .sc [.agg [.i .i64 0, .s ⟨#[]⟩, .s ⟨#[]⟩, .i .i64 0, .i .i64 0, .s ⟨#[]⟩], .one (.b false)], [0, 2, 3, 4, 5, 6, 7, 8, 9, 10, 41, 61], [(8, [(15, 2, []), (0, 0, []), (1, 0, []), (2, 0, []), (3, 0, []), (4, 0, []), (5, 0, []), (6, 0, []), (7, 0, []), (8, 0, []), (9, 0, []), (10, 0, []), (11, 0, []), (12, 0, []), (13, 0, []), (14, 0, []), (16, 1, [])])]⟩
def sg16 : Sig := ⟨[.bor], .sc [.one (.b false)], [0, 1, 2], []⟩
def sg66 : Sig := ⟨[.bor, .bor], .sc [.one (.b false)], [0, 1, 4, 5, 9, 55], [(4, [(0, 0, []), (1, 0, []), (2, 0, []), (3, 0, []), (4, 0, []), (5, 0, []), (6, 0, []), (7, 0, []), (8, 0, []), (9, 0, []), (10, 0, []), (11, 0, []), (12, 0, []), (13, 0, []), (14, 0, []), (15, 0, []), (16, 0, []), (17, 0, []), (18, 0, []), (19, 0, []), (20, 0, []), (21, 0, []), (22, 0, []), (23, 0, []), (24, 0, []), (25, 0, []), (26, 0, []), (27, 0, []), (28, 0, []), (29, 0, []), (30, 0, []), (31, 0, []), (32, 0, []), (33, 0, []), (34, 0, []), (35, 0, []), (36, 0, []), (37, 0, []), (38, 0, []), (39, 0, []), (40, 0, []), (41, 0, []), (42, 0, []), (43, 0, [])])]⟩
def sg29 : Sig := ⟨[.bor], .sc [.one (.b false)], [0, 2], []⟩
def sg81 : Sig := ⟨[.bor], .sc [.one (.s ⟨#[]⟩)], [0, 1, 2], [(1, [(0, 0, []), (1, 0, []), (2, 0, []), (3, 0, []), (4, 0, []), (5, 0, []), (6, 0, []), (7, 0, []), (8, 0, []), (9, 0, []), (10, 0, []), (11, 0, []), (12, 0, []), (13, 0, []), (14, 0, []), (15, 0, []), (16, 0, [])])]⟩
def sg41 : Sig := ⟨[.bor], .sc [.one (.s ⟨#[]⟩)], [0, 2, 3, 4, 7, 11], []⟩
def sg50 : Sig := ⟨[.bor], .fresh [[some (30, 9)], [none]], [0, 2, 3, 4, 5, 6, 7, 8, 9, 10, 19, 24, 47, 67], [(11, [(0, 0, []), (1, 0, []), (2, 0, []), (3, 0, []), (4, 0, []), (5, 0, []), (6, 0, []), (7, 0, []), (8, 0, []), (9, 0, []), (10, 0, []), (11, 0, []), (12, 1, [0]), (13, 1, []), (14, 1, [])])]⟩
def sg86 : Sig := ⟨[.bor], .sc [.one (.i .i64 0), .one (.i .i64 0)], [0, 2, 3, 4, 5, 6, 14, 29, 35], []⟩
def sg95 : Sig := ⟨[.ptr [none, none]], .sc [.one (.i .i64 0)], [0, 2, 3, 4, 20], []⟩
def sg121 : Sig := ⟨[.ptr [none, none], .bor], .sc [.one (.s ⟨#[]⟩)], [0, 1, 4, 5, 18], []⟩
def sg97 : Sig := ⟨[.ptr [none, none]], .sc [.one (.s ⟨#[]⟩)], [0, 2], []⟩
def sg120 : Sig := ⟨[.bor], .sc [.one (.i .i64 0)], [0, 2, 5], []⟩
def sg62 : Sig := ⟨[.bor, .bor, .bor], .sc [.one (.b false)], [0, 1, 2, 6], []⟩
def sg63 : Sig := ⟨[.bor], .sc [.one (.b false)], [0, 1, 2, 3, 4, 41], []⟩
def sg96 : Sig := ⟨[.bor], .sc [.agg [.i .i64 0, .s ⟨#[]⟩, .s ⟨#[]⟩, .i .i64 0, .i .i64 0, .s ⟨#[]⟩], .one (.b false)], [0, 2, 3, 4, 5, 44], []⟩
def sg18 : Sig := ⟨[.bor], .sc [.one (.b false)], [0, 1, 2], []⟩
def sg67 : Sig := ⟨[.bor, .bor], .sc [.one (.b false)], [0, 1, 4, 5, 6, 7, 8, 9, 10, 11, 29, 52], [(6, [(0, 0, []), (1, 0, []), (2, 0, []), (3, 0, []), (4, 0, []), (5, 0, []), (6, 0, []), (7, 0, []), (8, 0, []), (9, 0, []), (10, 0, []), (11, 0, []), (12, 0, [])]), (8, [(0, 0, []), (1, 0, []), (2, 0, []), (3, 0, []), (4, 0, []), (5, 0, []), (6, 0, []), (7, 0, []), (8, 0, []), (9, 0, []), (10, 0, []), (11, 0, []), (12, 0, []), (13, 0, []), (14, 0, []), (15, 0, []), (16, 0, []), (17, 0, []), (18, 0, []), (19, 0, []), (20, 0, []), (21, 0, []), (22, 0, [])])]⟩
def sg31 : Sig := ⟨[.bor], .sc [.one (.b false)], [0, 2], []⟩
def sg51 : Sig := ⟨[.bor], .fresh [[some (30, 9)], [none]], [0, 2, 3, 4, 5, 6, 7, 8, 15, 32, 73], []⟩
def sg65 : Sig := ⟨[.bor, .bor], .sc [.one (.b false)], [0, 1, 2, 3, 4, 9, 14, 19, 24, 29, 34], []⟩
def sg68 : Sig := ⟨[.bor, .bor], .sc [.one (.b false)], [0, 1, 2, 3, 4, 9, 14, 19, 25], []⟩
def sg32 : Sig := ⟨[.bor, .bor], .sc [.one (.b false)], [0, 1, 4, 5, 10, 14, 26], [(6, [(0, 0, []), (1, 0, []), (2, 0, []), (3, 0, []), (4, 0, []), (5, 0, []), (6, 0, []), (7, 0, []), (8, 0, []), (9, 0, [])])]⟩
def sg98 : Sig := ⟨[.bor], .sc [.one (.s ⟨#[]⟩)], [0, 2, 3, 5, 7], []⟩
def sg52 : Sig := ⟨[.io [some (30, 9)], .bor], .sc [.one (.i .i64 0)], [0, 1, 4, 5, 9], []⟩
def sg53 : Sig := ⟨[.bor, .bor], .sc [.one (.i .i64 0)], [0, 1, 4, 5, 9, 18, 27, 36, 46, 57, 68, 78, 88, 99], [(16, [(0, 0, []), (1, 0, []), (2, 0, []), (3, 0, []), (4, 0, []), (5, 0, []), (6, 0, []), (7, 0, []), (8, 0, [])]), (19, [(0, 0, []), (1, 0, []), (2, 0, []), (3, 0, []), (4, 0, []), (5, 0, []), (6, 0, []), (7, 0, []), (8, 0, [])]), (28, [(0, 0, []), (1, 0, []), (2, 0, []), (3, 0, []), (4, 0, []), (5, 0, []), (6, 0, []), (7, 0, []), (8, 0, [])])]⟩
def sg12 : Sig := ⟨[.bor], .sc [.one (.b false)], [0, 2, 3, 4, 5, 6, 7, 8, 9, 10, 13, 32, 40, 43, 57, 62, 65], []⟩
def sig : Nat → Sig := lkF ⟨[], .fresh [], [], []⟩ [(60, sg60), (89, sg89), (84, sg84), (92, sg92), (93, sg93), (119, sg119), (61, sg61), (110, sg110), (111, sg111), (69, sg69), (94, sg94), (16, sg16), (66, sg66), (29, sg29), (81, sg81), (41, sg41), (50, sg50), (86, sg86), (95, sg95), (121, sg121), (97, sg97), (120, sg120), (62, sg62), (63, sg63), (96, sg96), (18, sg18), (67, sg67), (31, sg31), (51, sg51), (65, sg65), (68, sg68), (32, sg32), (98, sg98), (52, sg52), (53, sg53), (12, sg12)]
def dep : Nat → Nat := lkF 0 [(60, 1), (89, 2), (84, 3), (92, 4), (93, 5), (119, 1), (61, 2), (110, 3), (111, 3), (69, 4), (94, 6), (16, 3), (66, 4), (29, 5), (81, 5), (41, 6), (50, 7), (86, 1), (95, 2), (121, 1), (97, 3), (120, 1), (62, 1), (63, 2), (96, 4), (18, 3), (67, 4), (31, 5), (51, 6), (65, 1), (68, 2), (32, 3), (98, 1), (52, 2), (53, 2), (12, 8)]
def gT : List (Nat × (List DV → Bool × List DV × List (List D))) := [(60, h60), (89, h89), (84, h84), (92, h92), (93, h93), (119, h119), (61, h61), (110, h110), (111, h111), (69, h69), (94, h94), (16, h16), (66, h66), (29, h29), (81, h81), (41, h41), (50, h50), (86, h86), (95, h95), (121, h121), (97, h97), (120, h120), (62, h62), (63, h63), (96, h96), (18, h18), (67, h67), (31, h31), (51, h51), (65, h65), (68, h68), (32, h32), (98, h98), (52, h52), (53, h53), (12, h12)]
def G : Nat → List DV → Bool × List DV × List (List D) := lkF (fun _ => (false, [], [])) gT
noncomputable def C60 : Ctx := ⟨Try.prog, sig, Gd G dep (dep 60), (sig 60).keep, (sig 60).ord⟩
noncomputable def c60 : Code := Try.f60.body.getD .skip
def ST60 : List (Nat × (St → Cont (List DV × List (List D)) → Rs)) := []
theorem r60 : ∀ vs, w60 vs = bodyK C60 (lkS ST60) Try.f60 (sig 60) c60 (fillAs A60 0 vs) := fun vs => by kernel_rfl
theorem ok60 : ∀ xs q, opt (h60 xs) = some q → evalBody Try.prog sig (Gd G dep (dep 60)) KK 60 xs = some q := fun xs q h => body_ok Try.func60 (c := c60) rfl A60 w60 (sums_of (C := C60) (t := ST60) trivial) r60 (by rw [← pw60]; exact opt_gOf h)
noncomputable def C89 : Ctx := ⟨Try.prog, sig, Gd G dep (dep 89), (sig 89).keep, (sig 89).ord⟩
noncomputable def c89 : Code := Try.f89.body.getD .skip
def T89o1 : TSt := ⟨[.d (.i .i64), .d (.s), .own 448, .d (.b), .any], [(448, .row 5 1)]⟩
def X89o1e1 : TSt := ⟨[.d (.i .i64), .d (.s), .own 448, .d (.b), .d (.b)], [(448, .row 5 1)]⟩
def L89o1 (m : Nat) (vs : List Vr) (K : Cont (List DV × List (List D))) : Rs := la89o1 u60 (vS vs 1) (vB vs 2) (fun n16 b17 l18 => K (.exit 0) (fillS X89o1e1 [.i (n16), .s (vS vs 1), .b (vB vs 2), .b (b17), .l (l18)])) m (vI vs 0) (vV vs 3) (vL vs 4)
def ST89 : List (Nat × (St → Cont (List DV × List (List D)) → Rs)) := [(1, sumT T89o1 (L89o1 KK))]
noncomputable def b89o1 : Code := match nodeAt c89 1 with | some (.loop a) => a | _ => .skip
theorem q89o1 : ∀ m vs K, L89o1 (m + 1) vs K = denK C89 (lkS ST89) b89o1 2 (fillS T89o1 vs) (loopK T89o1 (L89o1 m) K) := fun m vs K => by kernel_rfl
theorem o89o1 : SumOk C89 KK (sumT T89o1 (L89o1 KK)) (.loop b89o1) := loop_ok T89o1 L89o1 (sums_of (t := ST89) ⟨fun _ _ h => absurd h (by decide), trivial⟩) (fun _ _ => rfl) q89o1
theorem r89 : ∀ vs, w89 vs = bodyK C89 (lkS ST89) Try.f89 (sig 89) c89 (fillAs A89 0 vs) := fun vs => by kernel_rfl
theorem ok89 : ∀ xs q, opt (h89 xs) = some q → evalBody Try.prog sig (Gd G dep (dep 89)) KK 89 xs = some q := fun xs q h => body_ok Try.func89 (c := c89) rfl A89 w89 (sums_of (C := C89) (t := ST89) ⟨sum_in (c' := .loop b89o1) (by kernel_rfl) o89o1, trivial⟩) r89 (by rw [← pw89]; exact opt_gOf h)
noncomputable def C84 : Ctx := ⟨Try.prog, sig, Gd G dep (dep 84), (sig 84).keep, (sig 84).ord⟩
noncomputable def c84 : Code := Try.f84.body.getD .skip
def T84o2 : TSt := ⟨[.d (.s), .d (.i .i64), .d (.i .i64), .d (.i .i64), .d (.i .i64), .d (.i .i64), .d (.b), .any, .any], []⟩
def X84o2e1 : TSt := ⟨[.d (.s), .d (.i .i64), .d (.i .i64), .d (.i .i64), .d (.i .i64), .d (.i .i64), .d (.b), .d (.b), .any], []⟩
def L84o2 (m : Nat) (vs : List Vr) (K : Cont (List DV × List (List D))) : Rs := la84o2 u89 (vS vs 0) (vI vs 1) (vI vs 2) (vI vs 3) (vB vs 6) (fun n71 n72 b73 v74 => K (.exit 2) (fillS X84o2e1 [.s (vS vs 0), .i (vI vs 1), .i (vI vs 2), .i (vI vs 3), .i (n71), .i (n72), .b (vB vs 6), .b (b73), .v (v74)])) m (vI vs 4) (vI vs 5) (vV vs 7) (vV vs 8)
def T84o0 : TSt := ⟨[.d (.s), .d (.i .i64), .d (.i .i64), .d (.i .i64), .any, .any, .any, .any, .any], []⟩
def X84o0e1 : TSt := ⟨[.d (.s), .d (.i .i64), .d (.i .i64), .d (.i .i64), .d (.i .i64), .d (.i .i64), .d (.b), .d (.b), .d (.b)], []⟩
def X84o0e2 : TSt := ⟨[.d (.s), .d (.i .i64), .d (.i .i64), .d (.i .i64), .any, .any, .d (.b), .any, .any], []⟩
def L84o0 (m : Nat) (vs : List Vr) (K : Cont (List DV × List (List D))) : Rs := la84o0 u89 (vS vs 0) (vI vs 1) (vI vs 2) (fun n88 n89 n90 b91 b92 b93 => K .ret (fillS X84o0e1 [.s (vS vs 0), .i (n88), .i (n89), .i (n89), .i (n88), .i (n90), .b (b91), .b (b92), .b (b93)])) (fun n94 v95 v96 b97 v98 v99 => K (.exit 0) (fillS X84o0e2 [.s (vS vs 0), .i (vI vs 1), .i (vI vs 2), .i (n94), .v (v95), .v (v96), .b (b97), .v (v98), .v (v99)])) m (vI vs 3) (vV vs 4) (vV vs 5) (vV vs 6) (vV vs 7) (vV vs 8)
def ST84 : List (Nat × (St → Cont (List DV × List (List D)) → Rs)) := [(2, sumT T84o2 (L84o2 KK)), (0, sumT T84o0 (L84o0 KK))]
noncomputable def b84o2 : Code := match nodeAt c84 2 with | some (.loop a) => a | _ => .skip
noncomputable def b84o0 : Code := match nodeAt c84 0 with | some (.loop a) => a | _ => .skip
theorem q84o2 : ∀ m vs K, L84o2 (m + 1) vs K = denK C84 (lkS ST84) b84o2 3 (fillS T84o2 vs) (loopK T84o2 (L84o2 m) K) := fun m vs K => by kernel_rfl
theorem o84o2 : SumOk C84 KK (sumT T84o2 (L84o2 KK)) (.loop b84o2) := loop_ok T84o2 L84o2 (sums_of (t := ST84) ⟨fun _ _ h => absurd h (by decide), fun _ _ h => absurd h (by decide), trivial⟩) (fun _ _ => rfl) q84o2
theorem q84o0 : ∀ m vs K, L84o0 (m + 1) vs K = denK C84 (lkS ST84) b84o0 1 (fillS T84o0 vs) (loopK T84o0 (L84o0 m) K) := fun m vs K => by kernel_rfl
theorem o84o0 : SumOk C84 KK (sumT T84o0 (L84o0 KK)) (.loop b84o0) := loop_ok T84o0 L84o0 (sums_of (t := ST84) ⟨sum_in (c' := .loop b84o2) (by kernel_rfl) o84o2, fun _ _ h => absurd h (by decide), trivial⟩) (fun _ _ => rfl) q84o0
theorem r84 : ∀ vs, w84 vs = bodyK C84 (lkS ST84) Try.f84 (sig 84) c84 (fillAs A84 0 vs) := fun vs => by kernel_rfl
theorem ok84 : ∀ xs q, opt (h84 xs) = some q → evalBody Try.prog sig (Gd G dep (dep 84)) KK 84 xs = some q := fun xs q h => body_ok Try.func84 (c := c84) rfl A84 w84 (sums_of (C := C84) (t := ST84) ⟨sum_in (c' := .loop b84o2) (by kernel_rfl) o84o2, sum_in (c' := .loop b84o0) (by kernel_rfl) o84o0, trivial⟩) r84 (by rw [← pw84]; exact opt_gOf h)
noncomputable def C92 : Ctx := ⟨Try.prog, sig, Gd G dep (dep 92), (sig 92).keep, (sig 92).ord⟩
noncomputable def c92 : Code := Try.f92.body.getD .skip
def T92o0 : TSt := ⟨[.d (.s), .d (.i .i64), .d (.i .i64), .nils, .d (.i .i64), .own 768, .d (.i .i64), .any, .any, .any, .any, .any], [(768, .row 3 1)]⟩
def X92o0e1 : TSt := ⟨[.d (.s), .d (.i .i64), .d (.i .i64), .own 768, .d (.i .i64), .own 768, .d (.i .i64), .any, .any, .d (.b), .d (.b), .any], [(768, .row 3 1)]⟩
def X92o0e2 : TSt := ⟨[.d (.s), .d (.i .i64), .d (.i .i64), .own 768, .d (.i .i64), .own 768, .d (.i .i64), .d (.i .i64), .d (.i .i64), .d (.b), .d (.b), .d (.b)], [(768, .row 3 1)]⟩
def X92o0e3 : TSt := ⟨[.d (.s), .d (.i .i64), .d (.i .i64), .nils, .d (.i .i64), .own 768, .d (.i .i64), .any, .any, .d (.b), .any, .any], [(768, .row 3 1)]⟩
def L92o0 (m : Nat) (vs : List Vr) (K : Cont (List DV × List (List D))) : Rs := la92o0 u84 (vS vs 0) (vI vs 2) (vI vs 3) (fun n32 n33 v34 v35 b36 b37 v38 l39 => K .ret (fillS X92o0e1 [.s (vS vs 0), .i (n32), .i (vI vs 2), .i ((-1 : Int)), .i (n33), .v (v34), .v (v35), .b (b36), .b (b37), .v (v38), .l (l39)])) (fun n40 n41 n42 n43 b44 b45 b46 l47 => K .ret (fillS X92o0e2 [.s (vS vs 0), .i (n40), .i (vI vs 2), .i ((-1 : Int)), .i (n41), .i (n42), .i (n43), .b (b44), .b (b45), .b (b46), .l (l47)])) (fun n48 n49 v50 v51 b52 v53 v54 l55 => K (.exit 0) (fillS X92o0e3 [.s (vS vs 0), .i (n48), .i (vI vs 2), .i (vI vs 3), .i (n49), .v (v50), .v (v51), .b (b52), .v (v53), .v (v54), .l (l55)])) m (vI vs 1) (vI vs 4) (vV vs 5) (vV vs 6) (vV vs 7) (vV vs 8) (vV vs 9) (vL vs 10)
def ST92 : List (Nat × (St → Cont (List DV × List (List D)) → Rs)) := [(0, sumT T92o0 (L92o0 KK))]
noncomputable def b92o0 : Code := match nodeAt c92 0 with | some (.loop a) => a | _ => .skip
theorem q92o0 : ∀ m vs K, L92o0 (m + 1) vs K = denK C92 (lkS ST92) b92o0 1 (fillS T92o0 vs) (loopK T92o0 (L92o0 m) K) := fun m vs K => by kernel_rfl
theorem o92o0 : SumOk C92 KK (sumT T92o0 (L92o0 KK)) (.loop b92o0) := loop_ok T92o0 L92o0 (sums_of (t := ST92) ⟨fun _ _ h => absurd h (by decide), trivial⟩) (fun _ _ => rfl) q92o0
theorem r92 : ∀ vs, w92 vs = bodyK C92 (lkS ST92) Try.f92 (sig 92) c92 (fillAs A92 0 vs) := fun vs => by kernel_rfl
theorem ok92 : ∀ xs q, opt (h92 xs) = some q → evalBody Try.prog sig (Gd G dep (dep 92)) KK 92 xs = some q := fun xs q h => body_ok Try.func92 (c := c92) rfl A92 w92 (sums_of (C := C92) (t := ST92) ⟨sum_in (c' := .loop b92o0) (by kernel_rfl) o92o0, trivial⟩) r92 (by rw [← pw92]; exact opt_gOf h)
noncomputable def C93 : Ctx := ⟨Try.prog, sig, Gd G dep (dep 93), (sig 93).keep, (sig 93).ord⟩
noncomputable def c93 : Code := Try.f93.body.getD .skip
def ST93 : List (Nat × (St → Cont (List DV × List (List D)) → Rs)) := []
theorem r93 : ∀ vs, w93 vs = bodyK C93 (lkS ST93) Try.f93 (sig 93) c93 (fillAs A93 0 vs) := fun vs => by kernel_rfl
theorem ok93 : ∀ xs q, opt (h93 xs) = some q → evalBody Try.prog sig (Gd G dep (dep 93)) KK 93 xs = some q := fun xs q h => body_ok Try.func93 (c := c93) rfl A93 w93 (sums_of (C := C93) (t := ST93) trivial) r93 (by rw [← pw93]; exact opt_gOf h)
noncomputable def C119 : Ctx := ⟨Try.prog, sig, Gd G dep (dep 119), (sig 119).keep, (sig 119).ord⟩
noncomputable def c119 : Code := Try.f119.body.getD .skip
def ST119 : List (Nat × (St → Cont (List DV × List (List D)) → Rs)) := []
theorem r119 : ∀ vs, w119 vs = bodyK C119 (lkS ST119) Try.f119 (sig 119) c119 (fillAs A119 0 vs) := fun vs => by kernel_rfl
theorem ok119 : ∀ xs q, opt (h119 xs) = some q → evalBody Try.prog sig (Gd G dep (dep 119)) KK 119 xs = some q := fun xs q h => body_ok Try.func119 (c := c119) rfl A119 w119 (sums_of (C := C119) (t := ST119) trivial) r119 (by rw [← pw119]; exact opt_gOf h)
noncomputable def C61 : Ctx := ⟨Try.prog, sig, Gd G dep (dep 61), (sig 61).keep, (sig 61).ord⟩
noncomputable def c61 : Code := Try.f61.body.getD .skip
def ST61 : List (Nat × (St → Cont (List DV × List (List D)) → Rs)) := []
theorem r61 : ∀ vs, w61 vs = bodyK C61 (lkS ST61) Try.f61 (sig 61) c61 (fillAs A61 0 vs) := fun vs => by kernel_rfl
theorem ok61 : ∀ xs q, opt (h61 xs) = some q → evalBody Try.prog sig (Gd G dep (dep 61)) KK 61 xs = some q := fun xs q h => body_ok Try.func61 (c := c61) rfl A61 w61 (sums_of (C := C61) (t := ST61) trivial) r61 (by rw [← pw61]; exact opt_gOf h)
noncomputable def C110 : Ctx := ⟨Try.prog, sig, Gd G dep (dep 110), (sig 110).keep, (sig 110).ord⟩
noncomputable def c110 : Code := Try.f110.body.getD .skip
def ST110 : List (Nat × (St → Cont (List DV × List (List D)) → Rs)) := []
theorem r110 : ∀ vs, w110 vs = bodyK C110 (lkS ST110) Try.f110 (sig 110) c110 (fillAs A110 0 vs) := fun vs => by kernel_rfl
theorem ok110 : ∀ xs q, opt (h110 xs) = some q → evalBody Try.prog sig (Gd G dep (dep 110)) KK 110 xs = some q := fun xs q h => body_ok Try.func110 (c := c110) rfl A110 w110 (sums_of (C := C110) (t := ST110) trivial) r110 (by rw [← pw110]; exact opt_gOf h)
noncomputable def C111 : Ctx := ⟨Try.prog, sig, Gd G dep (dep 111), (sig 111).keep, (sig 111).ord⟩
noncomputable def c111 : Code := Try.f111.body.getD .skip
def ST111 : List (Nat × (St → Cont (List DV × List (List D)) → Rs)) := []
theorem r111 : ∀ vs, w111 vs = bodyK C111 (lkS ST111) Try.f111 (sig 111) c111 (fillAs A111 0 vs) := fun vs => by kernel_rfl
theorem ok111 : ∀ xs q, opt (h111 xs) = some q → evalBody Try.prog sig (Gd G dep (dep 111)) KK 111 xs = some q := fun xs q h => body_ok Try.func111 (c := c111) rfl A111 w111 (sums_of (C := C111) (t := ST111) trivial) r111 (by rw [← pw111]; exact opt_gOf h)
noncomputable def C69 : Ctx := ⟨Try.prog, sig, Gd G dep (dep 69), (sig 69).keep, (sig 69).ord⟩
noncomputable def c69 : Code := Try.f69.body.getD .skip
def ST69 : List (Nat × (St → Cont (List DV × List (List D)) → Rs)) := []
theorem r69 : ∀ vs, w69 vs = bodyK C69 (lkS ST69) Try.f69 (sig 69) c69 (fillAs A69 0 vs) := fun vs => by kernel_rfl
theorem ok69 : ∀ xs q, opt (h69 xs) = some q → evalBody Try.prog sig (Gd G dep (dep 69)) KK 69 xs = some q := fun xs q h => body_ok Try.func69 (c := c69) rfl A69 w69 (sums_of (C := C69) (t := ST69) trivial) r69 (by rw [← pw69]; exact opt_gOf h)
noncomputable def C94 : Ctx := ⟨Try.prog, sig, Gd G dep (dep 94), (sig 94).keep, (sig 94).ord⟩
noncomputable def c94 : Code := Try.f94.body.getD .skip
def ST94 : List (Nat × (St → Cont (List DV × List (List D)) → Rs)) := []
theorem r94 : ∀ vs, w94 vs = bodyK C94 (lkS ST94) Try.f94 (sig 94) c94 (fillAs A94 0 vs) := fun vs => by kernel_rfl
theorem ok94 : ∀ xs q, opt (h94 xs) = some q → evalBody Try.prog sig (Gd G dep (dep 94)) KK 94 xs = some q := fun xs q h => body_ok Try.func94 (c := c94) rfl A94 w94 (sums_of (C := C94) (t := ST94) trivial) r94 (by rw [← pw94]; exact opt_gOf h)
noncomputable def C16 : Ctx := ⟨Try.prog, sig, Gd G dep (dep 16), (sig 16).keep, (sig 16).ord⟩
noncomputable def c16 : Code := Try.f16.body.getD .skip
def ST16 : List (Nat × (St → Cont (List DV × List (List D)) → Rs)) := []
theorem r16 : ∀ vs, w16 vs = bodyK C16 (lkS ST16) Try.f16 (sig 16) c16 (fillAs A16 0 vs) := fun vs => by kernel_rfl
theorem ok16 : ∀ xs q, opt (h16 xs) = some q → evalBody Try.prog sig (Gd G dep (dep 16)) KK 16 xs = some q := fun xs q h => body_ok Try.func16 (c := c16) rfl A16 w16 (sums_of (C := C16) (t := ST16) trivial) r16 (by rw [← pw16]; exact opt_gOf h)
noncomputable def C66 : Ctx := ⟨Try.prog, sig, Gd G dep (dep 66), (sig 66).keep, (sig 66).ord⟩
noncomputable def c66 : Code := Try.f66.body.getD .skip
def T66o0 : TSt := ⟨[.d (.l), .d (.i .i64), .d (.b), .d (.i .i64), .any, .any], []⟩
def X66o0e1 : TSt := ⟨[.d (.l), .d (.i .i64), .d (.b), .d (.i .i64), .d (.b), .d (.b)], []⟩
def X66o0e2 : TSt := ⟨[.d (.l), .d (.i .i64), .d (.b), .d (.i .i64), .d (.b), .any], []⟩
def L66o0 (m : Nat) (vs : List Vr) (K : Cont (List DV × List (List D))) : Rs := la66o0 u16 (vL vs 0) (vI vs 1) (vB vs 2) (fun n19 b20 b21 => K .ret (fillS X66o0e1 [.l (vL vs 0), .i (vI vs 1), .b (false), .i (n19), .b (b20), .b (b21)])) (fun n22 b23 v24 => K (.exit 0) (fillS X66o0e2 [.l (vL vs 0), .i (vI vs 1), .b (vB vs 2), .i (n22), .b (b23), .v (v24)])) m (vI vs 3) (vV vs 4) (vV vs 5)
def ST66 : List (Nat × (St → Cont (List DV × List (List D)) → Rs)) := [(0, sumT T66o0 (L66o0 KK))]
noncomputable def b66o0 : Code := match nodeAt c66 0 with | some (.loop a) => a | _ => .skip
theorem q66o0 : ∀ m vs K, L66o0 (m + 1) vs K = denK C66 (lkS ST66) b66o0 1 (fillS T66o0 vs) (loopK T66o0 (L66o0 m) K) := fun m vs K => by kernel_rfl
theorem o66o0 : SumOk C66 KK (sumT T66o0 (L66o0 KK)) (.loop b66o0) := loop_ok T66o0 L66o0 (sums_of (t := ST66) ⟨fun _ _ h => absurd h (by decide), trivial⟩) (fun _ _ => rfl) q66o0
theorem r66 : ∀ vs, w66 vs = bodyK C66 (lkS ST66) Try.f66 (sig 66) c66 (fillAs A66 0 vs) := fun vs => by kernel_rfl
theorem ok66 : ∀ xs q, opt (h66 xs) = some q → evalBody Try.prog sig (Gd G dep (dep 66)) KK 66 xs = some q := fun xs q h => body_ok Try.func66 (c := c66) rfl A66 w66 (sums_of (C := C66) (t := ST66) ⟨sum_in (c' := .loop b66o0) (by kernel_rfl) o66o0, trivial⟩) r66 (by rw [← pw66]; exact opt_gOf h)
noncomputable def C29 : Ctx := ⟨Try.prog, sig, Gd G dep (dep 29), (sig 29).keep, (sig 29).ord⟩
noncomputable def c29 : Code := Try.f29.body.getD .skip
def ST29 : List (Nat × (St → Cont (List DV × List (List D)) → Rs)) := []
theorem r29 : ∀ vs, w29 vs = bodyK C29 (lkS ST29) Try.f29 (sig 29) c29 (fillAs A29 0 vs) := fun vs => by kernel_rfl
theorem ok29 : ∀ xs q, opt (h29 xs) = some q → evalBody Try.prog sig (Gd G dep (dep 29)) KK 29 xs = some q := fun xs q h => body_ok Try.func29 (c := c29) rfl A29 w29 (sums_of (C := C29) (t := ST29) trivial) r29 (by rw [← pw29]; exact opt_gOf h)
noncomputable def C81 : Ctx := ⟨Try.prog, sig, Gd G dep (dep 81), (sig 81).keep, (sig 81).ord⟩
noncomputable def c81 : Code := Try.f81.body.getD .skip
def ST81 : List (Nat × (St → Cont (List DV × List (List D)) → Rs)) := []
theorem r81 : ∀ vs, w81 vs = bodyK C81 (lkS ST81) Try.f81 (sig 81) c81 (fillAs A81 0 vs) := fun vs => by kernel_rfl
theorem ok81 : ∀ xs q, opt (h81 xs) = some q → evalBody Try.prog sig (Gd G dep (dep 81)) KK 81 xs = some q := fun xs q h => body_ok Try.func81 (c := c81) rfl A81 w81 (sums_of (C := C81) (t := ST81) trivial) r81 (by rw [← pw81]; exact opt_gOf h)
noncomputable def C41 : Ctx := ⟨Try.prog, sig, Gd G dep (dep 41), (sig 41).keep, (sig 41).ord⟩
noncomputable def c41 : Code := Try.f41.body.getD .skip
def T41o1 : TSt := ⟨[.d (.l), .d (.s), .d (.s), .d (.i .i64), .d (.b), .any], []⟩
def X41o1e1 : TSt := ⟨[.d (.l), .d (.s), .d (.s), .d (.i .i64), .d (.b), .d (.b)], []⟩
def L41o1 (m : Nat) (vs : List Vr) (K : Cont (List DV × List (List D))) : Rs := la41o1 u29 u81 (vL vs 0) (vS vs 1) (vB vs 4) (fun s19 n20 b21 => K (.exit 0) (fillS X41o1e1 [.l (vL vs 0), .s (vS vs 1), .s (s19), .i (n20), .b (vB vs 4), .b (b21)])) m (vS vs 2) (vI vs 3) (vV vs 5)
def ST41 : List (Nat × (St → Cont (List DV × List (List D)) → Rs)) := [(1, sumT T41o1 (L41o1 KK))]
noncomputable def b41o1 : Code := match nodeAt c41 1 with | some (.loop a) => a | _ => .skip
theorem q41o1 : ∀ m vs K, L41o1 (m + 1) vs K = denK C41 (lkS ST41) b41o1 2 (fillS T41o1 vs) (loopK T41o1 (L41o1 m) K) := fun m vs K => by kernel_rfl
theorem o41o1 : SumOk C41 KK (sumT T41o1 (L41o1 KK)) (.loop b41o1) := loop_ok T41o1 L41o1 (sums_of (t := ST41) ⟨fun _ _ h => absurd h (by decide), trivial⟩) (fun _ _ => rfl) q41o1
theorem r41 : ∀ vs, w41 vs = bodyK C41 (lkS ST41) Try.f41 (sig 41) c41 (fillAs A41 0 vs) := fun vs => by kernel_rfl
theorem ok41 : ∀ xs q, opt (h41 xs) = some q → evalBody Try.prog sig (Gd G dep (dep 41)) KK 41 xs = some q := fun xs q h => body_ok Try.func41 (c := c41) rfl A41 w41 (sums_of (C := C41) (t := ST41) ⟨sum_in (c' := .loop b41o1) (by kernel_rfl) o41o1, trivial⟩) r41 (by rw [← pw41]; exact opt_gOf h)
noncomputable def C50 : Ctx := ⟨Try.prog, sig, Gd G dep (dep 50), (sig 50).keep, (sig 50).ord⟩
noncomputable def c50 : Code := Try.f50.body.getD .skip
def T50o1 : TSt := ⟨[.d (.s), .nils, .d (.b), .own 704, .d (.i .i64), .undef, .any, .any, .undef, .any, .d (.b), .any, .any, .undef], [(704, .row 30 9)]⟩
def X50o1e1 : TSt := ⟨[.d (.s), .own 3072, .d (.b), .own 704, .d (.i .i64), .own 1792, .d (.i .i64), .d (.s), .ptr 576 0, .d (.b), .d (.b), .d (.b), .d (.b), .undef], [(704, .row 30 9), (1792, .row 3 1), (576, .box [.d (.i .i64), .d (.s), .d (.s), .d (.i .i64), .d (.i .i64), .d (.s)]), (3072, .row 30 9)]⟩
def X50o1e2 : TSt := ⟨[.d (.s), .nils, .d (.b), .own 704, .d (.i .i64), .undef, .any, .any, .undef, .any, .d (.b), .d (.b), .any, .undef], [(704, .row 30 9)]⟩
def L50o1 (m : Nat) (vs : List Vr) (K : Cont (List DV × List (List D))) : Rs := la50o1 u41 u92 u93 u94 (vS vs 0) (vB vs 1) (vB vs 6) (fun n27 n28 s29 b30 b31 b32 l33 l34 n35 s36 s37 n38 n39 s40 l41 => K .ret (fillS X50o1e1 [.s (vS vs 0), .b (false), .i (n27), .i (n28), .s (s29), .b (b30), .b (vB vs 6), .b (b31), .b (b32), .l (l33), .l (l34), .i (n35), .s (s36), .s (s37), .i (n38), .i (n39), .s (s40), .l (l41)])) (fun n42 v43 v44 v45 b46 v47 l48 => K (.exit 0) (fillS X50o1e2 [.s (vS vs 0), .b (vB vs 1), .i (n42), .v (v43), .v (v44), .v (v45), .b (vB vs 6), .b (b46), .v (v47), .l (l48)])) m (vI vs 2) (vV vs 3) (vV vs 4) (vV vs 5) (vV vs 7) (vV vs 8) (vL vs 9)
def ST50 : List (Nat × (St → Cont (List DV × List (List D)) → Rs)) := [(1, sumT T50o1 (L50o1 KK))]
noncomputable def b50o1 : Code := match nodeAt c50 1 with | some (.loop a) => a | _ => .skip
theorem q50o1 : ∀ m vs K, L50o1 (m + 1) vs K = denK C50 (lkS ST50) b50o1 2 (fillS T50o1 vs) (loopK T50o1 (L50o1 m) K) := fun m vs K => by kernel_rfl
theorem o50o1 : SumOk C50 KK (sumT T50o1 (L50o1 KK)) (.loop b50o1) := loop_ok T50o1 L50o1 (sums_of (t := ST50) ⟨fun _ _ h => absurd h (by decide), trivial⟩) (fun _ _ => rfl) q50o1
theorem r50 : ∀ vs, w50 vs = bodyK C50 (lkS ST50) Try.f50 (sig 50) c50 (fillAs A50 0 vs) := fun vs => by kernel_rfl
theorem ok50 : ∀ xs q, opt (h50 xs) = some q → evalBody Try.prog sig (Gd G dep (dep 50)) KK 50 xs = some q := fun xs q h => body_ok Try.func50 (c := c50) rfl A50 w50 (sums_of (C := C50) (t := ST50) ⟨sum_in (c' := .loop b50o1) (by kernel_rfl) o50o1, trivial⟩) r50 (by rw [← pw50]; exact opt_gOf h)
noncomputable def C86 : Ctx := ⟨Try.prog, sig, Gd G dep (dep 86), (sig 86).keep, (sig 86).ord⟩
noncomputable def c86 : Code := Try.f86.body.getD .skip
def T86o0 : TSt := ⟨[.d (.s), .d (.i .i64), .d (.i .i64), .d (.i .i64), .d (.i .i64), .any, .any, .any, .undef], []⟩
def X86o0e1 : TSt := ⟨[.d (.s), .d (.i .i64), .d (.i .i64), .d (.i .i64), .d (.i .i64), .d (.i .i64), .d (.b), .d (.b), .d (.b)], []⟩
def X86o0e2 : TSt := ⟨[.d (.s), .d (.i .i64), .d (.i .i64), .d (.i .i64), .d (.i .i64), .any, .d (.b), .any, .undef], []⟩
def L86o0 (m : Nat) (vs : List Vr) (K : Cont (List DV × List (List D))) : Rs := l86o0 (vS vs 0) (vI vs 1) (vI vs 2) (fun n23 n24 n25 n26 n27 b28 b29 b30 => K .ret (fillS X86o0e1 [.s (vS vs 0), .i (n23), .i (n24), .i (n25), .i (n26), .i (n27), .b (b28), .b (b29), .b (b30)])) (fun n31 n32 v33 b34 v35 => K (.exit 0) (fillS X86o0e2 [.s (vS vs 0), .i (vI vs 1), .i (vI vs 2), .i (n31), .i (n32), .v (v33), .b (b34), .v (v35)])) m (vI vs 3) (vI vs 4) (vV vs 5) (vV vs 6) (vV vs 7)
def ST86 : List (Nat × (St → Cont (List DV × List (List D)) → Rs)) := [(0, sumT T86o0 (L86o0 KK))]
noncomputable def b86o0 : Code := match nodeAt c86 0 with | some (.loop a) => a | _ => .skip
theorem q86o0 : ∀ m vs K, L86o0 (m + 1) vs K = denK C86 (lkS ST86) b86o0 1 (fillS T86o0 vs) (loopK T86o0 (L86o0 m) K) := fun m vs K => by kernel_rfl
theorem o86o0 : SumOk C86 KK (sumT T86o0 (L86o0 KK)) (.loop b86o0) := loop_ok T86o0 L86o0 (sums_of (t := ST86) ⟨fun _ _ h => absurd h (by decide), trivial⟩) (fun _ _ => rfl) q86o0
theorem r86 : ∀ vs, w86 vs = bodyK C86 (lkS ST86) Try.f86 (sig 86) c86 (fillAs A86 0 vs) := fun vs => by kernel_rfl
theorem ok86 : ∀ xs q, opt (h86 xs) = some q → evalBody Try.prog sig (Gd G dep (dep 86)) KK 86 xs = some q := fun xs q h => body_ok Try.func86 (c := c86) rfl A86 w86 (sums_of (C := C86) (t := ST86) ⟨sum_in (c' := .loop b86o0) (by kernel_rfl) o86o0, trivial⟩) r86 (by rw [← pw86]; exact opt_gOf h)
noncomputable def C95 : Ctx := ⟨Try.prog, sig, Gd G dep (dep 95), (sig 95).keep, (sig 95).ord⟩
noncomputable def c95 : Code := Try.f95.body.getD .skip
def ST95 : List (Nat × (St → Cont (List DV × List (List D)) → Rs)) := []
theorem r95 : ∀ vs, w95 vs = bodyK C95 (lkS ST95) Try.f95 (sig 95) c95 (fillAs A95 0 vs) := fun vs => by kernel_rfl
theorem ok95 : ∀ xs q, opt (h95 xs) = some q → evalBody Try.prog sig (Gd G dep (dep 95)) KK 95 xs = some q := fun xs q h => body_ok Try.func95 (c := c95) rfl A95 w95 (sums_of (C := C95) (t := ST95) trivial) r95 (by rw [← pw95]; exact opt_gOf h)
noncomputable def C121 : Ctx := ⟨Try.prog, sig, Gd G dep (dep 121), (sig 121).keep, (sig 121).ord⟩
noncomputable def c121 : Code := Try.f121.body.getD .skip
def ST121 : List (Nat × (St → Cont (List DV × List (List D)) → Rs)) := []
theorem r121 : ∀ vs, w121 vs = bodyK C121 (lkS ST121) Try.f121 (sig 121) c121 (fillAs A121 0 vs) := fun vs => by kernel_rfl
theorem ok121 : ∀ xs q, opt (h121 xs) = some q → evalBody Try.prog sig (Gd G dep (dep 121)) KK 121 xs = some q := fun xs q h => body_ok Try.func121 (c := c121) rfl A121 w121 (sums_of (C := C121) (t := ST121) trivial) r121 (by rw [← pw121]; exact opt_gOf h)
noncomputable def C97 : Ctx := ⟨Try.prog, sig, Gd G dep (dep 97), (sig 97).keep, (sig 97).ord⟩
noncomputable def c97 : Code := Try.f97.body.getD .skip
def ST97 : List (Nat × (St → Cont (List DV × List (List D)) → Rs)) := []
theorem r97 : ∀ vs, w97 vs = bodyK C97 (lkS ST97) Try.f97 (sig 97) c97 (fillAs A97 0 vs) := fun vs => by kernel_rfl
theorem ok97 : ∀ xs q, opt (h97 xs) = some q → evalBody Try.prog sig (Gd G dep (dep 97)) KK 97 xs = some q := fun xs q h => body_ok Try.func97 (c := c97) rfl A97 w97 (sums_of (C := C97) (t := ST97) trivial) r97 (by rw [← pw97]; exact opt_gOf h)
noncomputable def C120 : Ctx := ⟨Try.prog, sig, Gd G dep (dep 120), (sig 120).keep, (sig 120).ord⟩
noncomputable def c120 : Code := Try.f120.body.getD .skip
def ST120 : List (Nat × (St → Cont (List DV × List (List D)) → Rs)) := []
theorem r120 : ∀ vs, w120 vs = bodyK C120 (lkS ST120) Try.f120 (sig 120) c120 (fillAs A120 0 vs) := fun vs => by kernel_rfl
theorem ok120 : ∀ xs q, opt (h120 xs) = some q → evalBody Try.prog sig (Gd G dep (dep 120)) KK 120 xs = some q := fun xs q h => body_ok Try.func120 (c := c120) rfl A120 w120 (sums_of (C := C120) (t := ST120) trivial) r120 (by rw [← pw120]; exact opt_gOf h)
noncomputable def C62 : Ctx := ⟨Try.prog, sig, Gd G dep (dep 62), (sig 62).keep, (sig 62).ord⟩
noncomputable def c62 : Code := Try.f62.body.getD .skip
def ST62 : List (Nat × (St → Cont (List DV × List (List D)) → Rs)) := []
theorem r62 : ∀ vs, w62 vs = bodyK C62 (lkS ST62) Try.f62 (sig 62) c62 (fillAs A62 0 vs) := fun vs => by kernel_rfl
theorem ok62 : ∀ xs q, opt (h62 xs) = some q → evalBody Try.prog sig (Gd G dep (dep 62)) KK 62 xs = some q := fun xs q h => body_ok Try.func62 (c := c62) rfl A62 w62 (sums_of (C := C62) (t := ST62) trivial) r62 (by rw [← pw62]; exact opt_gOf h)
noncomputable def C63 : Ctx := ⟨Try.prog, sig, Gd G dep (dep 63), (sig 63).keep, (sig 63).ord⟩
noncomputable def c63 : Code := Try.f63.body.getD .skip
def ST63 : List (Nat × (St → Cont (List DV × List (List D)) → Rs)) := []
theorem r63 : ∀ vs, w63 vs = bodyK C63 (lkS ST63) Try.f63 (sig 63) c63 (fillAs A63 0 vs) := fun vs => by kernel_rfl
theorem ok63 : ∀ xs q, opt (h63 xs) = some q → evalBody Try.prog sig (Gd G dep (dep 63)) KK 63 xs = some q := fun xs q h => body_ok Try.func63 (c := c63) rfl A63 w63 (sums_of (C := C63) (t := ST63) trivial) r63 (by rw [← pw63]; exact opt_gOf h)
noncomputable def C96 : Ctx := ⟨Try.prog, sig, Gd G dep (dep 96), (sig 96).keep, (sig 96).ord⟩
noncomputable def c96 : Code := Try.f96.body.getD .skip
def ST96 : List (Nat × (St → Cont (List DV × List (List D)) → Rs)) := []
theorem r96 : ∀ vs, w96 vs = bodyK C96 (lkS ST96) Try.f96 (sig 96) c96 (fillAs A96 0 vs) := fun vs => by kernel_rfl
theorem ok96 : ∀ xs q, opt (h96 xs) = some q → evalBody Try.prog sig (Gd G dep (dep 96)) KK 96 xs = some q := fun xs q h => body_ok Try.func96 (c := c96) rfl A96 w96 (sums_of (C := C96) (t := ST96) trivial) r96 (by rw [← pw96]; exact opt_gOf h)
noncomputable def C18 : Ctx := ⟨Try.prog, sig, Gd G dep (dep 18), (sig 18).keep, (sig 18).ord⟩
noncomputable def c18 : Code := Try.f18.body.getD .skip
def ST18 : List (Nat × (St → Cont (List DV × List (List D)) → Rs)) := []
theorem r18 : ∀ vs, w18 vs = bodyK C18 (lkS ST18) Try.f18 (sig 18) c18 (fillAs A18 0 vs) := fun vs => by kernel_rfl
theorem ok18 : ∀ xs q, opt (h18 xs) = some q → evalBody Try.prog sig (Gd G dep (dep 18)) KK 18 xs = some q := fun xs q h => body_ok Try.func18 (c := c18) rfl A18 w18 (sums_of (C := C18) (t := ST18) trivial) r18 (by rw [← pw18]; exact opt_gOf h)
noncomputable def C67 : Ctx := ⟨Try.prog, sig, Gd G dep (dep 67), (sig 67).keep, (sig 67).ord⟩
noncomputable def c67 : Code := Try.f67.body.getD .skip
def T67o0 : TSt := ⟨[.d (.l), .d (.i .i64), .d (.b), .d (.i .i64), .any, .undef, .d (.l), .d (.i .i64), .d (.i .i64), .any, .any, .any], []⟩
def X67o0e1 : TSt := ⟨[.d (.l), .d (.i .i64), .d (.b), .d (.i .i64), .d (.i .i64), .ptr 448 0, .d (.l), .d (.i .i64), .d (.i .i64), .d (.b), .d (.b), .d (.b)], [(448, .box [.d (.i .i64), .d (.i .i64), .d (.i .i64), .d (.i .i64), .d (.s), .d (.s), .d (.i .i64), .d (.i .i64), .d (.s)])]⟩
def X67o0e2 : TSt := ⟨[.d (.l), .d (.i .i64), .d (.b), .d (.i .i64), .any, .undef, .d (.l), .d (.i .i64), .d (.i .i64), .d (.b), .any, .any], []⟩
def L67o0 (m : Nat) (vs : List Vr) (K : Cont (List DV × List (List D))) : Rs := la67o0 u18 (vL vs 0) (vI vs 1) (vB vs 2) (vL vs 5) (vI vs 6) (fun n34 n35 b36 b37 b38 n39 n40 n41 n42 s43 s44 n45 n46 s47 => K .ret (fillS X67o0e1 [.l (vL vs 0), .i (vI vs 1), .b (false), .i (n34), .i (n35), .l (vL vs 5), .i (vI vs 6), .i (n35), .b (b36), .b (b37), .b (b38), .i (n39), .i (n40), .i (n41), .i (n42), .s (s43), .s (s44), .i (n45), .i (n46), .s (s47)])) (fun n48 v49 n50 b51 v52 v53 => K (.exit 0) (fillS X67o0e2 [.l (vL vs 0), .i (vI vs 1), .b (vB vs 2), .i (n48), .v (v49), .l (vL vs 5), .i (vI vs 6), .i (n50), .b (b51), .v (v52), .v (v53)])) m (vI vs 3) (vV vs 4) (vI vs 7) (vV vs 8) (vV vs 9) (vV vs 10)
def ST67 : List (Nat × (St → Cont (List DV × List (List D)) → Rs)) := [(0, sumT T67o0 (L67o0 KK))]
noncomputable def b67o0 : Code := match nodeAt c67 0 with | some (.loop a) => a | _ => .skip
theorem q67o0 : ∀ m vs K, L67o0 (m + 1) vs K = denK C67 (lkS ST67) b67o0 1 (fillS T67o0 vs) (loopK T67o0 (L67o0 m) K) := fun m vs K => by kernel_rfl
theorem o67o0 : SumOk C67 KK (sumT T67o0 (L67o0 KK)) (.loop b67o0) := loop_ok T67o0 L67o0 (sums_of (t := ST67) ⟨fun _ _ h => absurd h (by decide), trivial⟩) (fun _ _ => rfl) q67o0
theorem r67 : ∀ vs, w67 vs = bodyK C67 (lkS ST67) Try.f67 (sig 67) c67 (fillAs A67 0 vs) := fun vs => by kernel_rfl
theorem ok67 : ∀ xs q, opt (h67 xs) = some q → evalBody Try.prog sig (Gd G dep (dep 67)) KK 67 xs = some q := fun xs q h => body_ok Try.func67 (c := c67) rfl A67 w67 (sums_of (C := C67) (t := ST67) ⟨sum_in (c' := .loop b67o0) (by kernel_rfl) o67o0, trivial⟩) r67 (by rw [← pw67]; exact opt_gOf h)
noncomputable def C31 : Ctx := ⟨Try.prog, sig, Gd G dep (dep 31), (sig 31).keep, (sig 31).ord⟩
noncomputable def c31 : Code := Try.f31.body.getD .skip
def ST31 : List (Nat × (St → Cont (List DV × List (List D)) → Rs)) := []
theorem r31 : ∀ vs, w31 vs = bodyK C31 (lkS ST31) Try.f31 (sig 31) c31 (fillAs A31 0 vs) := fun vs => by kernel_rfl
theorem ok31 : ∀ xs q, opt (h31 xs) = some q → evalBody Try.prog sig (Gd G dep (dep 31)) KK 31 xs = some q := fun xs q h => body_ok Try.func31 (c := c31) rfl A31 w31 (sums_of (C := C31) (t := ST31) trivial) r31 (by rw [← pw31]; exact opt_gOf h)
noncomputable def C51 : Ctx := ⟨Try.prog, sig, Gd G dep (dep 51), (sig 51).keep, (sig 51).ord⟩
noncomputable def c51 : Code := Try.f51.body.getD .skip
def T51o1 : TSt := ⟨[.d (.s), .nils, .d (.b), .ptr 1216 0, .own 1280, .undef, .undef, .any, .d (.b), .any, .undef], [(1216, .box [.d (.s), .d (.b)]), (1280, .row 30 9)]⟩
def X51o1e1 : TSt := ⟨[.d (.s), .nils, .d (.b), .ptr 1216 0, .own 1280, .undef, .undef, .any, .d (.b), .d (.b), .undef], [(1216, .box [.d (.s), .d (.b)]), (1280, .row 30 9)]⟩
def L51o1 (m : Nat) (vs : List Vr) (K : Cont (List DV × List (List D))) : Rs := la51o1 u31 u95 u96 u97 (vS vs 0) (vB vs 1) (vB vs 3) (fun v24 b25 s26 b27 l28 => K (.exit 0) (fillS X51o1e1 [.s (vS vs 0), .b (vB vs 1), .v (v24), .b (vB vs 3), .b (b25), .s (s26), .b (b27), .l (l28)])) m (vV vs 2) (vV vs 4) (vS vs 5) (vB vs 6) (vL vs 7)
def ST51 : List (Nat × (St → Cont (List DV × List (List D)) → Rs)) := [(1, sumT T51o1 (L51o1 KK))]
noncomputable def b51o1 : Code := match nodeAt c51 1 with | some (.loop a) => a | _ => .skip
theorem q51o1 : ∀ m vs K, L51o1 (m + 1) vs K = denK C51 (lkS ST51) b51o1 2 (fillS T51o1 vs) (loopK T51o1 (L51o1 m) K) := fun m vs K => by kernel_rfl
theorem o51o1 : SumOk C51 KK (sumT T51o1 (L51o1 KK)) (.loop b51o1) := loop_ok T51o1 L51o1 (sums_of (t := ST51) ⟨fun _ _ h => absurd h (by decide), trivial⟩) (fun _ _ => rfl) q51o1
theorem r51 : ∀ vs, w51 vs = bodyK C51 (lkS ST51) Try.f51 (sig 51) c51 (fillAs A51 0 vs) := fun vs => by kernel_rfl
theorem ok51 : ∀ xs q, opt (h51 xs) = some q → evalBody Try.prog sig (Gd G dep (dep 51)) KK 51 xs = some q := fun xs q h => body_ok Try.func51 (c := c51) rfl A51 w51 (sums_of (C := C51) (t := ST51) ⟨sum_in (c' := .loop b51o1) (by kernel_rfl) o51o1, trivial⟩) r51 (by rw [← pw51]; exact opt_gOf h)
noncomputable def C65 : Ctx := ⟨Try.prog, sig, Gd G dep (dep 65), (sig 65).keep, (sig 65).ord⟩
noncomputable def c65 : Code := Try.f65.body.getD .skip
def ST65 : List (Nat × (St → Cont (List DV × List (List D)) → Rs)) := []
theorem r65 : ∀ vs, w65 vs = bodyK C65 (lkS ST65) Try.f65 (sig 65) c65 (fillAs A65 0 vs) := fun vs => by kernel_rfl
theorem ok65 : ∀ xs q, opt (h65 xs) = some q → evalBody Try.prog sig (Gd G dep (dep 65)) KK 65 xs = some q := fun xs q h => body_ok Try.func65 (c := c65) rfl A65 w65 (sums_of (C := C65) (t := ST65) trivial) r65 (by rw [← pw65]; exact opt_gOf h)
noncomputable def C68 : Ctx := ⟨Try.prog, sig, Gd G dep (dep 68), (sig 68).keep, (sig 68).ord⟩
noncomputable def c68 : Code := Try.f68.body.getD .skip
def ST68 : List (Nat × (St → Cont (List DV × List (List D)) → Rs)) := []
theorem r68 : ∀ vs, w68 vs = bodyK C68 (lkS ST68) Try.f68 (sig 68) c68 (fillAs A68 0 vs) := fun vs => by kernel_rfl
theorem ok68 : ∀ xs q, opt (h68 xs) = some q → evalBody Try.prog sig (Gd G dep (dep 68)) KK 68 xs = some q := fun xs q h => body_ok Try.func68 (c := c68) rfl A68 w68 (sums_of (C := C68) (t := ST68) trivial) r68 (by rw [← pw68]; exact opt_gOf h)
noncomputable def C32 : Ctx := ⟨Try.prog, sig, Gd G dep (dep 32), (sig 32).keep, (sig 32).ord⟩
noncomputable def c32 : Code := Try.f32.body.getD .skip
def T32o1 : TSt := ⟨[.d (.l), .d (.l), .d (.b), .d (.i .i64), .d (.b), .any, .any], []⟩
def X32o1e1 : TSt := ⟨[.d (.l), .d (.l), .d (.b), .d (.i .i64), .d (.b), .d (.b), .d (.b)], []⟩
def X32o1e2 : TSt := ⟨[.d (.l), .d (.l), .d (.b), .d (.i .i64), .d (.b), .d (.b), .any], []⟩
def L32o1 (m : Nat) (vs : List Vr) (K : Cont (List DV × List (List D))) : Rs := la32o1 u68 (vL vs 0) (vL vs 1) (vB vs 2) (vB vs 4) (fun n22 b23 b24 => K .ret (fillS X32o1e1 [.l (vL vs 0), .l (vL vs 1), .b (false), .i (n22), .b (vB vs 4), .b (b23), .b (b24)])) (fun n25 b26 v27 => K (.exit 0) (fillS X32o1e2 [.l (vL vs 0), .l (vL vs 1), .b (vB vs 2), .i (n25), .b (vB vs 4), .b (b26), .v (v27)])) m (vI vs 3) (vV vs 5) (vV vs 6)
def ST32 : List (Nat × (St → Cont (List DV × List (List D)) → Rs)) := [(1, sumT T32o1 (L32o1 KK))]
noncomputable def b32o1 : Code := match nodeAt c32 1 with | some (.loop a) => a | _ => .skip
theorem q32o1 : ∀ m vs K, L32o1 (m + 1) vs K = denK C32 (lkS ST32) b32o1 2 (fillS T32o1 vs) (loopK T32o1 (L32o1 m) K) := fun m vs K => by kernel_rfl
theorem o32o1 : SumOk C32 KK (sumT T32o1 (L32o1 KK)) (.loop b32o1) := loop_ok T32o1 L32o1 (sums_of (t := ST32) ⟨fun _ _ h => absurd h (by decide), trivial⟩) (fun _ _ => rfl) q32o1
theorem r32 : ∀ vs, w32 vs = bodyK C32 (lkS ST32) Try.f32 (sig 32) c32 (fillAs A32 0 vs) := fun vs => by kernel_rfl
theorem ok32 : ∀ xs q, opt (h32 xs) = some q → evalBody Try.prog sig (Gd G dep (dep 32)) KK 32 xs = some q := fun xs q h => body_ok Try.func32 (c := c32) rfl A32 w32 (sums_of (C := C32) (t := ST32) ⟨sum_in (c' := .loop b32o1) (by kernel_rfl) o32o1, trivial⟩) r32 (by rw [← pw32]; exact opt_gOf h)
noncomputable def C98 : Ctx := ⟨Try.prog, sig, Gd G dep (dep 98), (sig 98).keep, (sig 98).ord⟩
noncomputable def c98 : Code := Try.f98.body.getD .skip
def T98o1 : TSt := ⟨[.d (.i .i64), .d (.s), .d (.s), .d (.b), .any], []⟩
def X98o1e1 : TSt := ⟨[.d (.i .i64), .d (.s), .d (.s), .d (.b), .d (.b)], []⟩
def L98o1 (m : Nat) (vs : List Vr) (K : Cont (List DV × List (List D))) : Rs := l98o1 (vS vs 1) (vB vs 3) (fun n16 s17 b18 => K (.exit 0) (fillS X98o1e1 [.i (n16), .s (vS vs 1), .s (s17), .b (vB vs 3), .b (b18)])) m (vI vs 0) (vS vs 2) (vV vs 4)
def ST98 : List (Nat × (St → Cont (List DV × List (List D)) → Rs)) := [(1, sumT T98o1 (L98o1 KK))]
noncomputable def b98o1 : Code := match nodeAt c98 1 with | some (.loop a) => a | _ => .skip
theorem q98o1 : ∀ m vs K, L98o1 (m + 1) vs K = denK C98 (lkS ST98) b98o1 2 (fillS T98o1 vs) (loopK T98o1 (L98o1 m) K) := fun m vs K => by kernel_rfl
theorem o98o1 : SumOk C98 KK (sumT T98o1 (L98o1 KK)) (.loop b98o1) := loop_ok T98o1 L98o1 (sums_of (t := ST98) ⟨fun _ _ h => absurd h (by decide), trivial⟩) (fun _ _ => rfl) q98o1
theorem r98 : ∀ vs, w98 vs = bodyK C98 (lkS ST98) Try.f98 (sig 98) c98 (fillAs A98 0 vs) := fun vs => by kernel_rfl
theorem ok98 : ∀ xs q, opt (h98 xs) = some q → evalBody Try.prog sig (Gd G dep (dep 98)) KK 98 xs = some q := fun xs q h => body_ok Try.func98 (c := c98) rfl A98 w98 (sums_of (C := C98) (t := ST98) ⟨sum_in (c' := .loop b98o1) (by kernel_rfl) o98o1, trivial⟩) r98 (by rw [← pw98]; exact opt_gOf h)
noncomputable def C52 : Ctx := ⟨Try.prog, sig, Gd G dep (dep 52), (sig 52).keep, (sig 52).ord⟩
noncomputable def c52 : Code := Try.f52.body.getD .skip
def T52o0 : TSt := ⟨[.own 1, .d (.i .i64), .d (.i .i64), .d (.i .i64), .any], [(1, .row 30 9)]⟩
def X52o0e1 : TSt := ⟨[.own 1, .d (.i .i64), .d (.i .i64), .d (.i .i64), .d (.b)], [(1, .row 30 9)]⟩
def L52o0 (m : Nat) (vs : List Vr) (K : Cont (List DV × List (List D))) : Rs := la52o0 u98 (vI vs 1) (fun n17 n18 b19 l20 => K (.exit 0) (fillS X52o0e1 [.i (n17), .i (vI vs 1), .i (n18), .b (b19), .l (l20)])) m (vI vs 0) (vI vs 2) (vV vs 3) (vL vs 4)
def ST52 : List (Nat × (St → Cont (List DV × List (List D)) → Rs)) := [(0, sumT T52o0 (L52o0 KK))]
noncomputable def b52o0 : Code := match nodeAt c52 0 with | some (.loop a) => a | _ => .skip
theorem q52o0 : ∀ m vs K, L52o0 (m + 1) vs K = denK C52 (lkS ST52) b52o0 1 (fillS T52o0 vs) (loopK T52o0 (L52o0 m) K) := fun m vs K => by kernel_rfl
theorem o52o0 : SumOk C52 KK (sumT T52o0 (L52o0 KK)) (.loop b52o0) := loop_ok T52o0 L52o0 (sums_of (t := ST52) ⟨fun _ _ h => absurd h (by decide), trivial⟩) (fun _ _ => rfl) q52o0
theorem r52 : ∀ vs, w52 vs = bodyK C52 (lkS ST52) Try.f52 (sig 52) c52 (fillAs A52 0 vs) := fun vs => by kernel_rfl
theorem ok52 : ∀ xs q, opt (h52 xs) = some q → evalBody Try.prog sig (Gd G dep (dep 52)) KK 52 xs = some q := fun xs q h => body_ok Try.func52 (c := c52) rfl A52 w52 (sums_of (C := C52) (t := ST52) ⟨sum_in (c' := .loop b52o0) (by kernel_rfl) o52o0, trivial⟩) r52 (by rw [← pw52]; exact opt_gOf h)
noncomputable def C53 : Ctx := ⟨Try.prog, sig, Gd G dep (dep 53), (sig 53).keep, (sig 53).ord⟩
noncomputable def c53 : Code := Try.f53.body.getD .skip
def T53o0 : TSt := ⟨[.d (.l), .d (.i .i64), .d (.i .i64), .d (.i .i64), .any, .any, .any, .any, .any, .any, .any, .any, .any, .any], []⟩
def X53o0e1 : TSt := ⟨[.d (.l), .d (.i .i64), .d (.i .i64), .d (.i .i64), .d (.b), .d (.b), .any, .any, .any, .any, .any, .any, .any, .any], []⟩
def X53o0e2 : TSt := ⟨[.d (.l), .d (.i .i64), .d (.i .i64), .d (.i .i64), .d (.b), .d (.b), .d (.b), .any, .any, .any, .any, .any, .any, .any], []⟩
def X53o0e3 : TSt := ⟨[.d (.l), .d (.i .i64), .d (.i .i64), .d (.i .i64), .d (.b), .d (.b), .d (.b), .d (.b), .any, .any, .any, .any, .any, .any], []⟩
def X53o0e4 : TSt := ⟨[.d (.l), .d (.i .i64), .d (.i .i64), .d (.i .i64), .d (.b), .d (.b), .d (.b), .d (.b), .d (.b), .any, .any, .any, .any, .any], []⟩
def X53o0e5 : TSt := ⟨[.d (.l), .d (.i .i64), .d (.i .i64), .d (.i .i64), .d (.b), .d (.b), .d (.b), .d (.b), .d (.b), .d (.b), .any, .any, .any, .any], []⟩
def X53o0e6 : TSt := ⟨[.d (.l), .d (.i .i64), .d (.i .i64), .d (.i .i64), .d (.b), .d (.b), .d (.b), .d (.b), .d (.b), .d (.b), .d (.b), .any, .any, .any], []⟩
def X53o0e7 : TSt := ⟨[.d (.l), .d (.i .i64), .d (.i .i64), .d (.i .i64), .d (.b), .d (.b), .d (.b), .d (.b), .d (.b), .d (.b), .d (.b), .d (.b), .any, .any], []⟩
def X53o0e8 : TSt := ⟨[.d (.l), .d (.i .i64), .d (.i .i64), .d (.i .i64), .d (.b), .d (.b), .d (.b), .d (.b), .d (.b), .d (.b), .d (.b), .d (.b), .d (.b), .any], []⟩
def X53o0e9 : TSt := ⟨[.d (.l), .d (.i .i64), .d (.i .i64), .d (.i .i64), .d (.b), .d (.b), .d (.b), .d (.b), .d (.b), .d (.b), .d (.b), .d (.b), .d (.b), .d (.b)], []⟩
def X53o0e10 : TSt := ⟨[.d (.l), .d (.i .i64), .d (.i .i64), .d (.i .i64), .d (.b), .any, .any, .any, .any, .any, .any, .any, .any, .any], []⟩
def L53o0 (m : Nat) (vs : List Vr) (K : Cont (List DV × List (List D))) : Rs := la53o0 u98 (vL vs 0) (vI vs 2) (fun n35 n36 b37 b38 v39 v40 v41 v42 v43 v44 v45 v46 => K .ret (fillS X53o0e1 [.l (vL vs 0), .i (n35), .i ((-1 : Int)), .i (n36), .b (b37), .b (b38), .v (v39), .v (v40), .v (v41), .v (v42), .v (v43), .v (v44), .v (v45), .v (v46)])) (fun n47 n48 b49 b50 b51 v52 v53 v54 v55 v56 v57 v58 => K .ret (fillS X53o0e2 [.l (vL vs 0), .i (n47), .i ((-1 : Int)), .i (n48), .b (b49), .b (b50), .b (b51), .v (v52), .v (v53), .v (v54), .v (v55), .v (v56), .v (v57), .v (v58)])) (fun n59 n60 b61 b62 b63 b64 v65 v66 v67 v68 v69 v70 => K .ret (fillS X53o0e3 [.l (vL vs 0), .i (n59), .i ((-1 : Int)), .i (n60), .b (b61), .b (b62), .b (b63), .b (b64), .v (v65), .v (v66), .v (v67), .v (v68), .v (v69), .v (v70)])) (fun n71 n72 b73 b74 b75 b76 b77 v78 v79 v80 v81 v82 => K .ret (fillS X53o0e4 [.l (vL vs 0), .i (n71), .i ((-1 : Int)), .i (n72), .b (b73), .b (b74), .b (b75), .b (b76), .b (b77), .v (v78), .v (v79), .v (v80), .v (v81), .v (v82)])) (fun n83 n84 b85 b86 b87 b88 b89 b90 v91 v92 v93 v94 => K .ret (fillS X53o0e5 [.l (vL vs 0), .i (n83), .i ((-1 : Int)), .i (n84), .b (b85), .b (b86), .b (b87), .b (b88), .b (b89), .b (b90), .v (v91), .v (v92), .v (v93), .v (v94)])) (fun n95 n96 b97 b98 b99 b100 b101 b102 b103 v104 v105 v106 => K .ret (fillS X53o0e6 [.l (vL vs 0), .i (n95), .i ((-1 : Int)), .i (n96), .b (b97), .b (b98), .b (b99), .b (b100), .b (b101), .b (b102), .b (b103), .v (v104), .v (v105), .v (v106)])) (fun n107 n108 b109 b110 b111 b112 b113 b114 b115 b116 v117 v118 => K .ret (fillS X53o0e7 [.l (vL vs 0), .i (n107), .i ((-1 : Int)), .i (n108), .b (b109), .b (b110), .b (b111), .b (b112), .b (b113), .b (b114), .b (b115), .b (b116), .v (v117), .v (v118)])) (fun n119 n120 b121 b122 b123 b124 b125 b126 b127 b128 b129 v130 => K .ret (fillS X53o0e8 [.l (vL vs 0), .i (n119), .i ((-1 : Int)), .i (n120), .b (b121), .b (b122), .b (b123), .b (b124), .b (b125), .b (b126), .b (b127), .b (b128), .b (b129), .v (v130)])) (fun n131 n132 b133 b134 b135 b136 b137 b138 b139 b140 b141 b142 => K .ret (fillS X53o0e9 [.l (vL vs 0), .i (n131), .i ((-1 : Int)), .i (n132), .b (b133), .b (b134), .b (b135), .b (b136), .b (b137), .b (b138), .b (b139), .b (b140), .b (b141), .b (b142)])) (fun n143 n144 b145 v146 v147 v148 v149 v150 v151 v152 v153 v154 => K (.exit 0) (fillS X53o0e10 [.l (vL vs 0), .i (n143), .i (vI vs 2), .i (n144), .b (b145), .v (v146), .v (v147), .v (v148), .v (v149), .v (v150), .v (v151), .v (v152), .v (v153), .v (v154)])) m (vI vs 1) (vI vs 3) (vV vs 4) (vV vs 5) (vV vs 6) (vV vs 7) (vV vs 8) (vV vs 9) (vV vs 10) (vV vs 11) (vV vs 12) (vV vs 13)
def ST53 : List (Nat × (St → Cont (List DV × List (List D)) → Rs)) := [(0, sumT T53o0 (L53o0 KK))]
noncomputable def b53o0 : Code := match nodeAt c53 0 with | some (.loop a) => a | _ => .skip
theorem q53o0 : ∀ m vs K, L53o0 (m + 1) vs K = denK C53 (lkS ST53) b53o0 1 (fillS T53o0 vs) (loopK T53o0 (L53o0 m) K) := fun m vs K => by kernel_rfl
theorem o53o0 : SumOk C53 KK (sumT T53o0 (L53o0 KK)) (.loop b53o0) := loop_ok T53o0 L53o0 (sums_of (t := ST53) ⟨fun _ _ h => absurd h (by decide), trivial⟩) (fun _ _ => rfl) q53o0
theorem r53 : ∀ vs, w53 vs = bodyK C53 (lkS ST53) Try.f53 (sig 53) c53 (fillAs A53 0 vs) := fun vs => by kernel_rfl
theorem ok53 : ∀ xs q, opt (h53 xs) = some q → evalBody Try.prog sig (Gd G dep (dep 53)) KK 53 xs = some q := fun xs q h => body_ok Try.func53 (c := c53) rfl A53 w53 (sums_of (C := C53) (t := ST53) ⟨sum_in (c' := .loop b53o0) (by kernel_rfl) o53o0, trivial⟩) r53 (by rw [← pw53]; exact opt_gOf h)
noncomputable def C12 : Ctx := ⟨Try.prog, sig, Gd G dep (dep 12), (sig 12).keep, (sig 12).ord⟩
noncomputable def c12 : Code := Try.f12.body.getD .skip
def ST12 : List (Nat × (St → Cont (List DV × List (List D)) → Rs)) := []
theorem r12 : ∀ vs, w12 vs = bodyK C12 (lkS ST12) Try.f12 (sig 12) c12 (fillAs A12 0 vs) := fun vs => by kernel_rfl
theorem ok12 : ∀ xs q, opt (h12 xs) = some q → evalBody Try.prog sig (Gd G dep (dep 12)) KK 12 xs = some q := fun xs q h => body_ok Try.func12 (c := c12) rfl A12 w12 (sums_of (C := C12) (t := ST12) trivial) r12 (by rw [← pw12]; exact opt_gOf h)
theorem fn_ok : ∀ f ∈ [60, 89, 84, 92, 93, 119, 61, 110, 111, 69, 94, 16, 66, 29, 81, 41, 50, 86, 95, 121, 97, 120, 62, 63, 96, 18, 67, 31, 51, 65, 68, 32, 98, 52, 53, 12], FnOk Try.prog sig f := fun f h => fnOk_of (List.all_eq_true.1 (show [60, 89, 84, 92, 93, 119, 61, 110, 111, 69, 94, 16, 66, 29, 81, 41, 50, 86, 95, 121, 97, 120, 62, 63, 96, 18, 67, 31, 51, 65, 68, 32, 98, 52, 53, 12].all (fnOkB Try.prog sig) = true by kernel_rfl) f h)
theorem all_ok : AllG (fun f xs q => FnOk Try.prog sig f ∧ evalBody Try.prog sig (Gd G dep (dep f)) KK f xs = some q) gT :=
  ⟨fun xs q h => ⟨fn_ok 60 (by simp), ok60 xs q h⟩, fun xs q h => ⟨fn_ok 89 (by simp), ok89 xs q h⟩, fun xs q h => ⟨fn_ok 84 (by simp), ok84 xs q h⟩, fun xs q h => ⟨fn_ok 92 (by simp), ok92 xs q h⟩, fun xs q h => ⟨fn_ok 93 (by simp), ok93 xs q h⟩, fun xs q h => ⟨fn_ok 119 (by simp), ok119 xs q h⟩, fun xs q h => ⟨fn_ok 61 (by simp), ok61 xs q h⟩, fun xs q h => ⟨fn_ok 110 (by simp), ok110 xs q h⟩, fun xs q h => ⟨fn_ok 111 (by simp), ok111 xs q h⟩, fun xs q h => ⟨fn_ok 69 (by simp), ok69 xs q h⟩, fun xs q h => ⟨fn_ok 94 (by simp), ok94 xs q h⟩, fun xs q h => ⟨fn_ok 16 (by simp), ok16 xs q h⟩, fun xs q h => ⟨fn_ok 66 (by simp), ok66 xs q h⟩, fun xs q h => ⟨fn_ok 29 (by simp), ok29 xs q h⟩, fun xs q h => ⟨fn_ok 81 (by simp), ok81 xs q h⟩, fun xs q h => ⟨fn_ok 41 (by simp), ok41 xs q h⟩, fun xs q h => ⟨fn_ok 50 (by simp), ok50 xs q h⟩, fun xs q h => ⟨fn_ok 86 (by simp), ok86 xs q h⟩, fun xs q h => ⟨fn_ok 95 (by simp), ok95 xs q h⟩, fun xs q h => ⟨fn_ok 121 (by simp), ok121 xs q h⟩, fun xs q h => ⟨fn_ok 97 (by simp), ok97 xs q h⟩, fun xs q h => ⟨fn_ok 120 (by simp), ok120 xs q h⟩, fun xs q h => ⟨fn_ok 62 (by simp), ok62 xs q h⟩, fun xs q h => ⟨fn_ok 63 (by simp), ok63 xs q h⟩, fun xs q h => ⟨fn_ok 96 (by simp), ok96 xs q h⟩, fun xs q h => ⟨fn_ok 18 (by simp), ok18 xs q h⟩, fun xs q h => ⟨fn_ok 67 (by simp), ok67 xs q h⟩, fun xs q h => ⟨fn_ok 31 (by simp), ok31 xs q h⟩, fun xs q h => ⟨fn_ok 51 (by simp), ok51 xs q h⟩, fun xs q h => ⟨fn_ok 65 (by simp), ok65 xs q h⟩, fun xs q h => ⟨fn_ok 68 (by simp), ok68 xs q h⟩, fun xs q h => ⟨fn_ok 32 (by simp), ok32 xs q h⟩, fun xs q h => ⟨fn_ok 98 (by simp), ok98 xs q h⟩, fun xs q h => ⟨fn_ok 52 (by simp), ok52 xs q h⟩, fun xs q h => ⟨fn_ok 53 (by simp), ok53 xs q h⟩, fun xs q h => ⟨fn_ok 12 (by simp), ok12 xs q h⟩, trivial⟩
theorem G_ok (f : Nat) : SpecOk Try.prog (sig f) (fun xs => opt (G f xs)) f := G_spec (by kernel_rfl) (allG_of all_ok) f
end
end Go.Den.L12
