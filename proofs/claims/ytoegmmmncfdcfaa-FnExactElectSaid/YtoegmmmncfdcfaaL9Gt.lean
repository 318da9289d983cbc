/- The functions' table, and that each is what its twin says. Printed by tw.py. -/
import Derived.Test.YtoegmmmncfdcfaaL9Tw
import Derived.Test.YtoegmmmncfdcfaaProg
import Derived.KernelRfl
set_option linter.unusedVariables false
namespace Go.Den.L9
open Go Go.Proofs
noncomputable section
set_option maxRecDepth 100000
def tu73 : Int → ByteArray → Int → Rs := Classical.choose (⟨t73, rfl⟩ : ∃ f, f = t73)
theorem tu73_eq : tu73 = t73 := Classical.choose_spec (⟨t73, rfl⟩ : ∃ f, f = t73)
def tu37 : List (List D) → Int → Rs := Classical.choose (⟨t37, rfl⟩ : ∃ f, f = t37)
theorem tu37_eq : tu37 = t37 := Classical.choose_spec (⟨t37, rfl⟩ : ∃ f, f = t37)
def tu38 : List (List D) → Int → Rs := Classical.choose (⟨t38, rfl⟩ : ∃ f, f = t38)
theorem tu38_eq : tu38 = t38 := Classical.choose_spec (⟨t38, rfl⟩ : ∃ f, f = t38)
def tu10 : Int → Int → Int → Int → Int → Int → Int → Int → List (List D) → Int → List (List D) → List (List D) → List (List D) → Int → Rs := Classical.choose (⟨t10, rfl⟩ : ∃ f, f = t10)
theorem tu10_eq : tu10 = t10 := Classical.choose_spec (⟨t10, rfl⟩ : ∃ f, f = t10)
def tu75 : Int → ByteArray → Rs := Classical.choose (⟨t75, rfl⟩ : ∃ f, f = t75)
theorem tu75_eq : tu75 = t75 := Classical.choose_spec (⟨t75, rfl⟩ : ∃ f, f = t75)
def tu44 : List (List D) → Rs := Classical.choose (⟨t44, rfl⟩ : ∃ f, f = t44)
theorem tu44_eq : tu44 = t44 := Classical.choose_spec (⟨t44, rfl⟩ : ∃ f, f = t44)
def tu45 : List (List D) → Rs := Classical.choose (⟨t45, rfl⟩ : ∃ f, f = t45)
theorem tu45_eq : tu45 = t45 := Classical.choose_spec (⟨t45, rfl⟩ : ∃ f, f = t45)
def tu12 : Int → Int → Int → Int → Int → Int → Int → Int → List (List D) → Int → List (List D) → List (List D) → List (List D) → Rs := Classical.choose (⟨t12, rfl⟩ : ∃ f, f = t12)
theorem tu12_eq : tu12 = t12 := Classical.choose_spec (⟨t12, rfl⟩ : ∃ f, f = t12)
def tu39 : Int → Int → Int → Rs := Classical.choose (⟨t39, rfl⟩ : ∃ f, f = t39)
theorem tu39_eq : tu39 = t39 := Classical.choose_spec (⟨t39, rfl⟩ : ∃ f, f = t39)
def tu41 : Int → Int → Int → Int → Int → Int → Int → Int → List (List D) → Int → List (List D) → List (List D) → List (List D) → ByteArray → Rs := Classical.choose (⟨t41, rfl⟩ : ∃ f, f = t41)
theorem tu41_eq : tu41 = t41 := Classical.choose_spec (⟨t41, rfl⟩ : ∃ f, f = t41)
def tu74 : Int → Int → Rs := Classical.choose (⟨t74, rfl⟩ : ∃ f, f = t74)
theorem tu74_eq : tu74 = t74 := Classical.choose_spec (⟨t74, rfl⟩ : ∃ f, f = t74)
def tu40 : Int → Int → Int → Int → ByteArray → List (List D) → Rs := Classical.choose (⟨t40, rfl⟩ : ∃ f, f = t40)
theorem tu40_eq : tu40 = t40 := Classical.choose_spec (⟨t40, rfl⟩ : ∃ f, f = t40)
def tu42 : Int → Int → Int → Int → Int → Int → Int → Int → List (List D) → Int → List (List D) → List (List D) → List (List D) → Rs := Classical.choose (⟨t42, rfl⟩ : ∃ f, f = t42)
theorem tu42_eq : tu42 = t42 := Classical.choose_spec (⟨t42, rfl⟩ : ∃ f, f = t42)
def tu43 : List (List D) → Int → Rs := Classical.choose (⟨t43, rfl⟩ : ∃ f, f = t43)
theorem tu43_eq : tu43 = t43 := Classical.choose_spec (⟨t43, rfl⟩ : ∃ f, f = t43)
def tu11 : Int → Int → Int → Int → Int → Int → Int → Int → List (List D) → Int → List (List D) → List (List D) → List (List D) → Rs := Classical.choose (⟨t11, rfl⟩ : ∃ f, f = t11)
theorem tu11_eq : tu11 = t11 := Classical.choose_spec (⟨t11, rfl⟩ : ∃ f, f = t11)
def tu61 : Int → Int → Int → Int → Int → Int → Int → Int → List (List D) → Int → List (List D) → List (List D) → List (List D) → Rs := Classical.choose (⟨t61, rfl⟩ : ∃ f, f = t61)
theorem tu61_eq : tu61 = t61 := Classical.choose_spec (⟨t61, rfl⟩ : ∃ f, f = t61)
def tu62 : Int → Int → Int → Int → Int → Int → Int → Int → List (List D) → Int → List (List D) → List (List D) → List (List D) → Int → Rs := Classical.choose (⟨t62, rfl⟩ : ∃ f, f = t62)
theorem tu62_eq : tu62 = t62 := Classical.choose_spec (⟨t62, rfl⟩ : ∃ f, f = t62)
def tu83 : Int → Int → Int → Int → Int → Int → Int → Int → List (List D) → Int → List (List D) → List (List D) → List (List D) → Rs := Classical.choose (⟨t83, rfl⟩ : ∃ f, f = t83)
theorem tu83_eq : tu83 = t83 := Classical.choose_spec (⟨t83, rfl⟩ : ∃ f, f = t83)
def tu69 : Int → Int → Int → Int → Int → Int → Int → Int → List (List D) → Int → List (List D) → List (List D) → List (List D) → ByteArray → Rs := Classical.choose (⟨t69, rfl⟩ : ∃ f, f = t69)
theorem tu69_eq : tu69 = t69 := Classical.choose_spec (⟨t69, rfl⟩ : ∃ f, f = t69)
def tu80 : Int → Int → Int → Int → Int → Int → Int → Int → List (List D) → Int → List (List D) → List (List D) → List (List D) → Int → Rs := Classical.choose (⟨t80, rfl⟩ : ∃ f, f = t80)
theorem tu80_eq : tu80 = t80 := Classical.choose_spec (⟨t80, rfl⟩ : ∃ f, f = t80)
def tu65 : Int → Int → Int → Int → Int → Int → Int → Int → List (List D) → Int → List (List D) → List (List D) → List (List D) → Rs := Classical.choose (⟨t65, rfl⟩ : ∃ f, f = t65)
theorem tu65_eq : tu65 = t65 := Classical.choose_spec (⟨t65, rfl⟩ : ∃ f, f = t65)
def tu71 : Int → Int → Int → Int → Int → Int → Int → Int → List (List D) → Int → List (List D) → List (List D) → List (List D) → Rs := Classical.choose (⟨t71, rfl⟩ : ∃ f, f = t71)
theorem tu71_eq : tu71 = t71 := Classical.choose_spec (⟨t71, rfl⟩ : ∃ f, f = t71)
def tu35 : Int → Int → Int → Int → Int → Int → Int → Int → List (List D) → Int → List (List D) → List (List D) → List (List D) → Rs := Classical.choose (⟨t35, rfl⟩ : ∃ f, f = t35)
theorem tu35_eq : tu35 = t35 := Classical.choose_spec (⟨t35, rfl⟩ : ∃ f, f = t35)
def tu46 : Int → Int → Int → Rs := Classical.choose (⟨t46, rfl⟩ : ∃ f, f = t46)
theorem tu46_eq : tu46 = t46 := Classical.choose_spec (⟨t46, rfl⟩ : ∃ f, f = t46)
def tu48 : Int → Int → Int → Int → Int → Int → Int → Int → List (List D) → Int → List (List D) → List (List D) → List (List D) → ByteArray → Rs := Classical.choose (⟨t48, rfl⟩ : ∃ f, f = t48)
theorem tu48_eq : tu48 = t48 := Classical.choose_spec (⟨t48, rfl⟩ : ∃ f, f = t48)
def tu47 : Int → Int → Int → Int → ByteArray → List (List D) → Rs := Classical.choose (⟨t47, rfl⟩ : ∃ f, f = t47)
theorem tu47_eq : tu47 = t47 := Classical.choose_spec (⟨t47, rfl⟩ : ∃ f, f = t47)
def tu49 : Int → Int → Int → Int → Int → Int → Int → Int → List (List D) → Int → List (List D) → List (List D) → List (List D) → Rs := Classical.choose (⟨t49, rfl⟩ : ∃ f, f = t49)
theorem tu49_eq : tu49 = t49 := Classical.choose_spec (⟨t49, rfl⟩ : ∃ f, f = t49)
def tu88 : List (List D) → Int → Rs := Classical.choose (⟨t88, rfl⟩ : ∃ f, f = t88)
theorem tu88_eq : tu88 = t88 := Classical.choose_spec (⟨t88, rfl⟩ : ∃ f, f = t88)
def tu76 : List (List D) → Int → Rs := Classical.choose (⟨t76, rfl⟩ : ∃ f, f = t76)
theorem tu76_eq : tu76 = t76 := Classical.choose_spec (⟨t76, rfl⟩ : ∃ f, f = t76)
def tu77 : Int → Int → Int → Int → Int → Int → Int → Int → List (List D) → Int → List (List D) → List (List D) → List (List D) → Int → Rs := Classical.choose (⟨t77, rfl⟩ : ∃ f, f = t77)
theorem tu77_eq : tu77 = t77 := Classical.choose_spec (⟨t77, rfl⟩ : ∃ f, f = t77)
def tu50 : Int → Int → Int → Int → Int → Int → Int → Int → List (List D) → Int → List (List D) → List (List D) → List (List D) → Rs := Classical.choose (⟨t50, rfl⟩ : ∃ f, f = t50)
theorem tu50_eq : tu50 = t50 := Classical.choose_spec (⟨t50, rfl⟩ : ∃ f, f = t50)
def tu51 : Int → Int → Int → Int → Int → Int → Int → Int → List (List D) → Int → List (List D) → List (List D) → List (List D) → Rs := Classical.choose (⟨t51, rfl⟩ : ∃ f, f = t51)
theorem tu51_eq : tu51 = t51 := Classical.choose_spec (⟨t51, rfl⟩ : ∃ f, f = t51)
def tu13 : Int → Int → Int → Int → Int → Int → Int → Int → List (List D) → Int → List (List D) → List (List D) → List (List D) → Rs := Classical.choose (⟨t13, rfl⟩ : ∃ f, f = t13)
theorem tu13_eq : tu13 = t13 := Classical.choose_spec (⟨t13, rfl⟩ : ∃ f, f = t13)
def tu79 : List (List D) → Rs := Classical.choose (⟨t79, rfl⟩ : ∃ f, f = t79)
theorem tu79_eq : tu79 = t79 := Classical.choose_spec (⟨t79, rfl⟩ : ∃ f, f = t79)
def tu63 : Int → Int → Int → Int → Int → Int → Int → Int → List (List D) → Int → List (List D) → List (List D) → List (List D) → Rs := Classical.choose (⟨t63, rfl⟩ : ∃ f, f = t63)
theorem tu63_eq : tu63 = t63 := Classical.choose_spec (⟨t63, rfl⟩ : ∃ f, f = t63)
def tu84 : Int → Int → Int → Int → Int → Int → Int → Int → List (List D) → Int → List (List D) → List (List D) → List (List D) → Rs := Classical.choose (⟨t84, rfl⟩ : ∃ f, f = t84)
theorem tu84_eq : tu84 = t84 := Classical.choose_spec (⟨t84, rfl⟩ : ∃ f, f = t84)
def tu85 : Int → Int → Int → Int → Int → Int → Int → Int → List (List D) → Int → List (List D) → List (List D) → List (List D) → Rs := Classical.choose (⟨t85, rfl⟩ : ∃ f, f = t85)
theorem tu85_eq : tu85 = t85 := Classical.choose_spec (⟨t85, rfl⟩ : ∃ f, f = t85)
def tu64 : Int → Int → Int → Int → Int → Int → Int → Int → List (List D) → Int → List (List D) → List (List D) → List (List D) → Int → Rs := Classical.choose (⟨t64, rfl⟩ : ∃ f, f = t64)
theorem tu64_eq : tu64 = t64 := Classical.choose_spec (⟨t64, rfl⟩ : ∃ f, f = t64)
def tu86 : Int → Int → Int → Int → Int → Int → Int → Int → List (List D) → Int → List (List D) → List (List D) → List (List D) → Rs := Classical.choose (⟨t86, rfl⟩ : ∃ f, f = t86)
theorem tu86_eq : tu86 = t86 := Classical.choose_spec (⟨t86, rfl⟩ : ∃ f, f = t86)
def tu81 : Int → Int → Int → Int → Int → Int → Int → Int → List (List D) → Int → List (List D) → List (List D) → List (List D) → Rs := Classical.choose (⟨t81, rfl⟩ : ∃ f, f = t81)
theorem tu81_eq : tu81 = t81 := Classical.choose_spec (⟨t81, rfl⟩ : ∃ f, f = t81)
def tu82 : Int → Int → Int → Int → Int → Int → Int → Int → List (List D) → Int → List (List D) → List (List D) → List (List D) → Int → Rs := Classical.choose (⟨t82, rfl⟩ : ∃ f, f = t82)
theorem tu82_eq : tu82 = t82 := Classical.choose_spec (⟨t82, rfl⟩ : ∃ f, f = t82)
def tu66 : Int → Int → Int → Int → Int → Int → Int → Int → List (List D) → Int → List (List D) → List (List D) → List (List D) → Rs := Classical.choose (⟨t66, rfl⟩ : ∃ f, f = t66)
theorem tu66_eq : tu66 = t66 := Classical.choose_spec (⟨t66, rfl⟩ : ∃ f, f = t66)
def tu87 : Int → Int → Int → Int → Int → Int → Int → Int → List (List D) → Int → List (List D) → List (List D) → List (List D) → Rs := Classical.choose (⟨t87, rfl⟩ : ∃ f, f = t87)
theorem tu87_eq : tu87 = t87 := Classical.choose_spec (⟨t87, rfl⟩ : ∃ f, f = t87)
def tu72 : Int → Int → Int → Int → Int → Int → Int → Int → List (List D) → Int → List (List D) → List (List D) → List (List D) → Rs := Classical.choose (⟨t72, rfl⟩ : ∃ f, f = t72)
theorem tu72_eq : tu72 = t72 := Classical.choose_spec (⟨t72, rfl⟩ : ∃ f, f = t72)
def tu36 : Int → Int → Int → Int → Int → Int → Int → Int → List (List D) → Int → List (List D) → List (List D) → List (List D) → Rs := Classical.choose (⟨t36, rfl⟩ : ∃ f, f = t36)
theorem tu36_eq : tu36 = t36 := Classical.choose_spec (⟨t36, rfl⟩ : ∃ f, f = t36)
def tu78 : Int → ByteArray → Int → ByteArray → Rs := Classical.choose (⟨t78, rfl⟩ : ∃ f, f = t78)
theorem tu78_eq : tu78 = t78 := Classical.choose_spec (⟨t78, rfl⟩ : ∃ f, f = t78)
def tu52 : List (List D) → List (List D) → Rs := Classical.choose (⟨t52, rfl⟩ : ∃ f, f = t52)
theorem tu52_eq : tu52 = t52 := Classical.choose_spec (⟨t52, rfl⟩ : ∃ f, f = t52)
def tu53 : List (List D) → List (List D) → Rs := Classical.choose (⟨t53, rfl⟩ : ∃ f, f = t53)
theorem tu53_eq : tu53 = t53 := Classical.choose_spec (⟨t53, rfl⟩ : ∃ f, f = t53)
def tu14 : Int → Int → Int → Int → Int → Int → Int → Int → List (List D) → Int → List (List D) → List (List D) → List (List D) → Int → Int → Int → Int → Int → Int → Int → Int → List (List D) → Int → List (List D) → List (List D) → List (List D) → Rs := Classical.choose (⟨t14, rfl⟩ : ∃ f, f = t14)
theorem tu14_eq : tu14 = t14 := Classical.choose_spec (⟨t14, rfl⟩ : ∃ f, f = t14)
def tu67 : Int → Int → Int → Int → Int → Int → Int → Bool → List (List D) → ByteArray → Int → Int → Int → Int → Int → Int → Int → Bool → List (List D) → ByteArray → Rs := Classical.choose (⟨t67, rfl⟩ : ∃ f, f = t67)
theorem tu67_eq : tu67 = t67 := Classical.choose_spec (⟨t67, rfl⟩ : ∃ f, f = t67)
def tu30 : List (List D) → List (List D) → Rs := Classical.choose (⟨t30, rfl⟩ : ∃ f, f = t30)
theorem tu30_eq : tu30 = t30 := Classical.choose_spec (⟨t30, rfl⟩ : ∃ f, f = t30)
def tu68 : Int → Rs := Classical.choose (⟨t68, rfl⟩ : ∃ f, f = t68)
theorem tu68_eq : tu68 = t68 := Classical.choose_spec (⟨t68, rfl⟩ : ∃ f, f = t68)
def tu55 : List (List D) → Int → Rs := Classical.choose (⟨t55, rfl⟩ : ∃ f, f = t55)
theorem tu55_eq : tu55 = t55 := Classical.choose_spec (⟨t55, rfl⟩ : ∃ f, f = t55)
def tu56 : List (List D) → Int → Rs := Classical.choose (⟨t56, rfl⟩ : ∃ f, f = t56)
theorem tu56_eq : tu56 = t56 := Classical.choose_spec (⟨t56, rfl⟩ : ∃ f, f = t56)
def tu18 : Int → Int → Int → Int → Int → Int → Int → Int → List (List D) → Int → List (List D) → List (List D) → List (List D) → Int → Rs := Classical.choose (⟨t18, rfl⟩ : ∃ f, f = t18)
theorem tu18_eq : tu18 = t18 := Classical.choose_spec (⟨t18, rfl⟩ : ∃ f, f = t18)
def tu31 : List (List D) → Int → Rs := Classical.choose (⟨t31, rfl⟩ : ∃ f, f = t31)
theorem tu31_eq : tu31 = t31 := Classical.choose_spec (⟨t31, rfl⟩ : ∃ f, f = t31)
def tu57 : List (List D) → Int → Rs := Classical.choose (⟨t57, rfl⟩ : ∃ f, f = t57)
theorem tu57_eq : tu57 = t57 := Classical.choose_spec (⟨t57, rfl⟩ : ∃ f, f = t57)
def tu60 : List (List D) → Int → Rs := Classical.choose (⟨t60, rfl⟩ : ∃ f, f = t60)
theorem tu60_eq : tu60 = t60 := Classical.choose_spec (⟨t60, rfl⟩ : ∃ f, f = t60)
def tu25 : Int → Int → Int → Int → Int → Int → Int → Int → List (List D) → Int → List (List D) → List (List D) → List (List D) → Int → Rs := Classical.choose (⟨t25, rfl⟩ : ∃ f, f = t25)
theorem tu25_eq : tu25 = t25 := Classical.choose_spec (⟨t25, rfl⟩ : ∃ f, f = t25)
def tu32 : List (List D) → Int → Rs := Classical.choose (⟨t32, rfl⟩ : ∃ f, f = t32)
theorem tu32_eq : tu32 = t32 := Classical.choose_spec (⟨t32, rfl⟩ : ∃ f, f = t32)
def tu9 : Int → Int → Int → Int → Int → Int → Int → Int → List (List D) → Int → List (List D) → List (List D) → List (List D) → Rs := Classical.choose (⟨t9, rfl⟩ : ∃ f, f = t9)
theorem tu9_eq : tu9 = t9 := Classical.choose_spec (⟨t9, rfl⟩ : ∃ f, f = t9)
theorem te73 : t73 = t73 := rfl
def tw73 (vs : List Vr) : Rs := t73 (vI vs 0) (vS vs 1) (vI vs 2)
def tp73 (vs : List Vr) : Rs := tu73 (vI vs 0) (vS vs 1) (vI vs 2)
theorem tpw73 : tp73 = tw73 := funext fun vs => by unfold tp73 tw73; rw [tu73_eq, te73]
def th73 (xs : List DV) : Bool × List DV × List (List D) := gOf zr73 zo73 (argsT A73 tp73 xs)
def la37o1 (t73 : Int → ByteArray → Int → Rs) (l8 : List (List D)) (n10 : Int) (b12 : Bool) (q1 : Int → Int → Bool → Bool → Rs) (q2 : Int → Int → Bool → SV → Rs) : Nat → Int → Int → SV → SV → Rs
  | 0, _, _, _, _ => none
  | m + 1, n9, n11, v13, v14 =>
    let y1 := decide (n11 < (l8.length : Int))
    if y1 then
     let y2 := l8.getD n11.toNat []
     chk (decide (0 ≤ n11) && decide (n11 < l8.length) && isRow z90 y2) <|
     let y3 := t73 (asI (nthD y2 0)) (asS (nthD y2 1)) n9
     chk (okR zr73 zo73 y3) <|
     let y4 := asI (resC y3 0 0)
     let y5 := decide (y4 < (0 : Int))
     if y5 then
      q1 y4 n11 y1 y5
     else
      la37o1 t73 l8 n10 b12 q1 q2 m y4 (w64 (n11 + (1 : Int))) (.d (.b y1)) (.d (.b y5))
    else
     q2 n9 n11 y1 (keepV [] v14)
def ta37 (t73 : Int → ByteArray → Int → Rs) (l1 : List (List D)) (n2 : Int) : Rs :=
  let y1 := w64 (n2 - (l1.length : Int))
  let y2 := decide (y1 < (0 : Int))
  if y2 then
   some ([.one (.i .i64 (-1 : Int))], [])
  else
   la37o1 t73 l1 (0 : Int) y2
    (fun (n30 : Int) (n31 : Int) (b32 : Bool) (b33 : Bool) =>
     some ([.one (.i .i64 (-1 : Int))], []))
    (fun (n34 : Int) (n35 : Int) (b36 : Bool) (v37 : SV) =>
     some ([.one (.i .i64 n34)], [])) KK y1 (0 : Int) SV.undef SV.undef
theorem te37 : ta37 tu73 = t37 := (by rw [tu73_eq] : ta37 tu73 = ta37 t73).trans (by kernel_rfl)
def tw37 (vs : List Vr) : Rs := ta37 tu73 (vL vs 0) (vI vs 1)
def tp37 (vs : List Vr) : Rs := tu37 (vL vs 0) (vI vs 1)
theorem tpw37 : tp37 = tw37 := funext fun vs => by unfold tp37 tw37; rw [tu37_eq, te37]
def th37 (xs : List DV) : Bool × List DV × List (List D) := gOf zr37 zo37 (argsT A37 tp37 xs)
theorem te38 : t38 = t38 := rfl
def tw38 (vs : List Vr) : Rs := t38 (vL vs 0) (vI vs 1)
def tp38 (vs : List Vr) : Rs := tu38 (vL vs 0) (vI vs 1)
theorem tpw38 : tp38 = tw38 := funext fun vs => by unfold tp38 tw38; rw [tu38_eq, te38]
def th38 (xs : List DV) : Bool × List DV × List (List D) := gOf zr38 zo38 (argsT A38 tp38 xs)
def ta10 (t37 : List (List D) → Int → Rs) (t38 : List (List D) → Int → Rs) (n1 : Int) (n2 : Int) (n3 : Int) (n4 : Int) (n5 : Int) (n6 : Int) (n7 : Int) (n8 : Int) (l9 : List (List D)) (n10 : Int) (l11 : List (List D)) (l12 : List (List D)) (l13 : List (List D)) (n14 : Int) : Rs :=
  chk (okR zr37 zo37 (t37 l9 n14)) <|
  let y1 := asI (resC (t37 l9 n14) 0 0)
  if decide (y1 < (0 : Int)) then
   some ([.one (.i .i64 (-1 : Int))], [])
  else
   let y2 := t38 l11 y1
   chk (okR zr38 zo38 y2) <|
   let y3 := asI (resC y2 0 0)
   if decide (y3 < (0 : Int)) then
    some ([.one (.i .i64 (-1 : Int))], [])
   else
    let y4 := t38 l12 y3
    chk (okR zr38 zo38 y4) <|
    let y5 := asI (resC y4 0 0)
    if decide (y5 < (0 : Int)) then
     some ([.one (.i .i64 (-1 : Int))], [])
    else
     let y6 := t38 l13 y5
     chk (okR zr38 zo38 y6) <|
     let y7 := asI (resC y6 0 0)
     if decide (y7 < (0 : Int)) then
      some ([.one (.i .i64 (-1 : Int))], [])
     else
      some ([.one (.i .i64 y7)], [])
theorem te10 : ta10 tu37 tu38 = t10 := (by rw [tu37_eq, tu38_eq] : ta10 tu37 tu38 = ta10 t37 t38).trans (by kernel_rfl)
def tw10 (vs : List Vr) : Rs := ta10 tu37 tu38 (vI vs 0) (vI vs 1) (vI vs 2) (vI vs 3) (vI vs 4) (vI vs 5) (vI vs 6) (vI vs 7) (vL vs 8) (vI vs 9) (vL vs 10) (vL vs 11) (vL vs 12) (vI vs 13)
def tp10 (vs : List Vr) : Rs := tu10 (vI vs 0) (vI vs 1) (vI vs 2) (vI vs 3) (vI vs 4) (vI vs 5) (vI vs 6) (vI vs 7) (vL vs 8) (vI vs 9) (vL vs 10) (vL vs 11) (vL vs 12) (vI vs 13)
theorem tpw10 : tp10 = tw10 := funext fun vs => by unfold tp10 tw10; rw [tu10_eq, te10]
def th10 (xs : List DV) : Bool × List DV × List (List D) := gOf zr10 zo10 (argsT A10 tp10 xs)
theorem te75 : t75 = t75 := rfl
def tw75 (vs : List Vr) : Rs := t75 (vI vs 0) (vS vs 1)
def tp75 (vs : List Vr) : Rs := tu75 (vI vs 0) (vS vs 1)
theorem tpw75 : tp75 = tw75 := funext fun vs => by unfold tp75 tw75; rw [tu75_eq, te75]
def th75 (xs : List DV) : Bool × List DV × List (List D) := gOf zr75 zo75 (argsT A75 tp75 xs)
def la44o0 (t75 : Int → ByteArray → Rs) (l5 : List (List D)) (q1 : Int → Bool → List (List D) → Rs) : Nat → Int → SV → List (List D) → Rs
  | 0, _, _, _ => none
  | m + 1, n6, v7, l8 =>
    let y1 := decide (n6 < (l5.length : Int))
    if y1 then
     let y2 := l5.getD n6.toNat []
     chk (decide (0 ≤ n6) && decide (n6 < l5.length) && isRow z90 y2) <|
     let y3 := t75 (asI (nthD y2 0)) (asS (nthD y2 1))
     chk (okR zr75 zo75 y3) <|
     chk (decide (0 ≤ n6) && decide (n6 < l8.length)) <|
     chk (decide (2 ≤ 2 ∧ (n6.toNat) < l8.length)) <|
     la44o0 t75 l5 q1 m (w64 (n6 + (1 : Int))) (.d (.b y1)) (stR l8 (n6.toNat) 0 [.i .i64 (asI (resC y3 0 0)), .s (asS (resC y3 0 1))])
    else
     q1 n6 y1 l8
def ta44 (t75 : Int → ByteArray → Rs) (l1 : List (List D)) : Rs :=
  let y1 := (l1.length : Int)
  chk (decide (0 ≤ y1 ∧ y1 ≤ lim ∧ y1 = y1)) <|
  la44o0 t75 l1
   (fun (n16 : Int) (b17 : Bool) (l18 : List (List D)) =>
    some ([.one (.l l18)], [])) KK (0 : Int) SV.undef (List.replicate y1.toNat z92)
theorem te44 : ta44 tu75 = t44 := (by rw [tu75_eq] : ta44 tu75 = ta44 t75).trans (by kernel_rfl)
def tw44 (vs : List Vr) : Rs := ta44 tu75 (vL vs 0)
def tp44 (vs : List Vr) : Rs := tu44 (vL vs 0)
theorem tpw44 : tp44 = tw44 := funext fun vs => by unfold tp44 tw44; rw [tu44_eq, te44]
def th44 (xs : List DV) : Bool × List DV × List (List D) := gOf zr44 zo44 (argsT A44 tp44 xs)
theorem te45 : t45 = t45 := rfl
def tw45 (vs : List Vr) : Rs := t45 (vL vs 0)
def tp45 (vs : List Vr) : Rs := tu45 (vL vs 0)
theorem tpw45 : tp45 = tw45 := funext fun vs => by unfold tp45 tw45; rw [tu45_eq, te45]
def th45 (xs : List DV) : Bool × List DV × List (List D) := gOf zr45 zo45 (argsT A45 tp45 xs)
def ta12 (t44 : List (List D) → Rs) (t45 : List (List D) → Rs) (n1 : Int) (n2 : Int) (n3 : Int) (n4 : Int) (n5 : Int) (n6 : Int) (n7 : Int) (n8 : Int) (l9 : List (List D)) (n10 : Int) (l11 : List (List D)) (l12 : List (List D)) (l13 : List (List D)) : Rs :=
  chk (okR zr44 zo44 (t44 l9)) <|
  chk (okR zr45 zo45 (t45 l11)) <|
  chk (okR zr45 zo45 (t45 l12)) <|
  chk (okR zr45 zo45 (t45 l13)) <|
  some ([.agg [.i .i64 n1, .i .i64 n2, .i .i64 n3, .i .i64 n4, .i .i64 n5, .i .i64 n6, .i .i64 n7, .i .i64 n8, .l (asL (resC (t44 l9) 0 0)), .i .i64 n10, .l (asL (resC (t45 l11) 0 0)), .l (asL (resC (t45 l12) 0 0)), .l (asL (resC (t45 l13) 0 0))]], [])
theorem te12 : ta12 tu44 tu45 = t12 := (by rw [tu44_eq, tu45_eq] : ta12 tu44 tu45 = ta12 t44 t45).trans (by kernel_rfl)
def tw12 (vs : List Vr) : Rs := ta12 tu44 tu45 (vI vs 0) (vI vs 1) (vI vs 2) (vI vs 3) (vI vs 4) (vI vs 5) (vI vs 6) (vI vs 7) (vL vs 8) (vI vs 9) (vL vs 10) (vL vs 11) (vL vs 12)
def tp12 (vs : List Vr) : Rs := tu12 (vI vs 0) (vI vs 1) (vI vs 2) (vI vs 3) (vI vs 4) (vI vs 5) (vI vs 6) (vI vs 7) (vL vs 8) (vI vs 9) (vL vs 10) (vL vs 11) (vL vs 12)
theorem tpw12 : tp12 = tw12 := funext fun vs => by unfold tp12 tw12; rw [tu12_eq, te12]
def th12 (xs : List DV) : Bool × List DV × List (List D) := gOf zr12 zo12 (argsT A12 tp12 xs)
theorem te39 : t39 = t39 := rfl
def tw39 (vs : List Vr) : Rs := t39 (vI vs 0) (vI vs 1) (vI vs 2)
def tp39 (vs : List Vr) : Rs := tu39 (vI vs 0) (vI vs 1) (vI vs 2)
theorem tpw39 : tp39 = tw39 := funext fun vs => by unfold tp39 tw39; rw [tu39_eq, te39]
def th39 (xs : List DV) : Bool × List DV × List (List D) := gOf zr39 zo39 (argsT A39 tp39 xs)
theorem te41 : t41 = t41 := rfl
def tw41 (vs : List Vr) : Rs := t41 (vI vs 0) (vI vs 1) (vI vs 2) (vI vs 3) (vI vs 4) (vI vs 5) (vI vs 6) (vI vs 7) (vL vs 8) (vI vs 9) (vL vs 10) (vL vs 11) (vL vs 12) (vS vs 13)
def tp41 (vs : List Vr) : Rs := tu41 (vI vs 0) (vI vs 1) (vI vs 2) (vI vs 3) (vI vs 4) (vI vs 5) (vI vs 6) (vI vs 7) (vL vs 8) (vI vs 9) (vL vs 10) (vL vs 11) (vL vs 12) (vS vs 13)
theorem tpw41 : tp41 = tw41 := funext fun vs => by unfold tp41 tw41; rw [tu41_eq, te41]
def th41 (xs : List DV) : Bool × List DV × List (List D) := gOf zr41 zo41 (argsT A41 tp41 xs)
def ta74 (t39 : Int → Int → Int → Rs) (n1 : Int) (n2 : Int) : Rs :=
  if n1 == (0 : Int) then
   some ([.one (.b (n2 == (0 : Int)))], [])
  else
   let y1 := t39 n1 (1 : Int) (100000 : Int)
   chk (okR zr39 zo39 y1) <|
   let y2 := t39 n2 (1 : Int) (100000 : Int)
   let y3 := asB (resC y1 0 0)
   chk ((okR zr39 zo39 y2) || !y3) <|
   some ([.one (.b (y3 && (asB (resC y2 0 0))))], [])
theorem te74 : ta74 tu39 = t74 := (by rw [tu39_eq] : ta74 tu39 = ta74 t39).trans (by kernel_rfl)
def tw74 (vs : List Vr) : Rs := ta74 tu39 (vI vs 0) (vI vs 1)
def tp74 (vs : List Vr) : Rs := tu74 (vI vs 0) (vI vs 1)
theorem tpw74 : tp74 = tw74 := funext fun vs => by unfold tp74 tw74; rw [tu74_eq, te74]
def th74 (xs : List DV) : Bool × List DV × List (List D) := gOf zr74 zo74 (argsT A74 tp74 xs)
def la40o1 (t39 : Int → Int → Int → Rs) (t74 : Int → Int → Rs) (n23 : Int) (n24 : Int) (n25 : Int) (n26 : Int) (s27 : ByteArray) (l28 : List (List D)) (b29 : Bool) (b32 : Bool) (n35 : Int) (n36 : Int) (n37 : Int) (n38 : Int) (s39 : ByteArray) (l40 : List (List D)) (q1 : Int → Int → Bool → Bool → Int → ByteArray → Rs) (q2 : Int → Int → Bool → SV → Rs) : Nat → Int → Int → SV → SV → Rs
  | 0, _, _, _, _ => none
  | m + 1, n30, n31, v33, v34 =>
    let y1 := decide (n31 < (l40.length : Int))
    if y1 then
     let y2 := l40.getD n31.toNat []
     chk (decide (0 ≤ n31) && decide (n31 < l40.length) && isRow z92 y2) <|
     let y3 := asI (nthD y2 0)
     let y4 := asS (nthD y2 1)
     let y5 := (((decide (y3 < (1 : Int))) || (decide (y3 < n30))) || (decide (y3 > n35))) || (decide ((y4.size : Int) > (1600 : Int)))
     if y5 then
      q1 n30 n31 y1 y5 y3 y4
     else
      la40o1 t39 t74 n23 n24 n25 n26 s27 l28 b29 b32 n35 n36 n37 n38 s39 l40 q1 q2 m y3 (w64 (n31 + (1 : Int))) (.d (.b y1)) (.d (.b y5))
    else
     q2 n30 n31 y1 (keepV [64] v34)
def ta40 (t39 : Int → Int → Int → Rs) (t74 : Int → Int → Rs) (n1 : Int) (n2 : Int) (n3 : Int) (n4 : Int) (s5 : ByteArray) (l6 : List (List D)) : Rs :=
  let y1 := t39 n1 (0 : Int) (100000 : Int)
  chk (okR zr39 zo39 y1) <|
  let y2 := t39 n2 (-1 : Int) (4 : Int)
  let y3 := !(asB (resC y1 0 0))
  chk ((okR zr39 zo39 y2) || !(!y3)) <|
  let y4 := y3 || (!(asB (resC y2 0 0)))
  chk ((okR zr74 zo74 (t74 n3 n4)) || !(!y4)) <|
  let y5 := (((((y4 || (!(asB (resC (t74 n3 n4) 0 0)))) || ((n3 == (0 : Int)) && (!(s5.toList == (⟨#[]⟩ : ByteArray).toList)))) || (decide ((s5.size : Int) > (20000 : Int)))) || (decide (n4 > n1))) || (decide ((l6.length : Int) > (60 : Int)))) || (decide ((w64 (n3 + (l6.length : Int))) > (100000 : Int)))
  if y5 then
   some ([.one (.b false)], [])
  else
   la40o1 t39 t74 n1 n2 n3 n4 s5 l6 false y5 n1 n2 n3 n4 s5 l6
    (fun (n69 : Int) (n70 : Int) (b71 : Bool) (b72 : Bool) (n73 : Int) (s74 : ByteArray) =>
     some ([.one (.b false)], []))
    (fun (n75 : Int) (n76 : Int) (b77 : Bool) (v78 : SV) =>
     some ([.one (.b true)], [])) KK n4 (0 : Int) SV.undef SV.undef
theorem te40 : ta40 tu39 tu74 = t40 := (by rw [tu39_eq, tu74_eq] : ta40 tu39 tu74 = ta40 t39 t74).trans (by kernel_rfl)
def tw40 (vs : List Vr) : Rs := ta40 tu39 tu74 (vI vs 0) (vI vs 1) (vI vs 2) (vI vs 3) (vS vs 4) (vL vs 5)
def tp40 (vs : List Vr) : Rs := tu40 (vI vs 0) (vI vs 1) (vI vs 2) (vI vs 3) (vS vs 4) (vL vs 5)
theorem tpw40 : tp40 = tw40 := funext fun vs => by unfold tp40 tw40; rw [tu40_eq, te40]
def th40 (xs : List DV) : Bool × List DV × List (List D) := gOf zr40 zo40 (argsT A40 tp40 xs)
theorem te42 : t42 = t42 := rfl
def tw42 (vs : List Vr) : Rs := t42 (vI vs 0) (vI vs 1) (vI vs 2) (vI vs 3) (vI vs 4) (vI vs 5) (vI vs 6) (vI vs 7) (vL vs 8) (vI vs 9) (vL vs 10) (vL vs 11) (vL vs 12)
def tp42 (vs : List Vr) : Rs := tu42 (vI vs 0) (vI vs 1) (vI vs 2) (vI vs 3) (vI vs 4) (vI vs 5) (vI vs 6) (vI vs 7) (vL vs 8) (vI vs 9) (vL vs 10) (vL vs 11) (vL vs 12)
theorem tpw42 : tp42 = tw42 := funext fun vs => by unfold tp42 tw42; rw [tu42_eq, te42]
def th42 (xs : List DV) : Bool × List DV × List (List D) := gOf zr42 zo42 (argsT A42 tp42 xs)
theorem te43 : t43 = t43 := rfl
def tw43 (vs : List Vr) : Rs := t43 (vL vs 0) (vI vs 1)
def tp43 (vs : List Vr) : Rs := tu43 (vL vs 0) (vI vs 1)
theorem tpw43 : tp43 = tw43 := funext fun vs => by unfold tp43 tw43; rw [tu43_eq, te43]
def th43 (xs : List DV) : Bool × List DV × List (List D) := gOf zr43 zo43 (argsT A43 tp43 xs)
def la11o8 (t39 : Int → Int → Int → Rs) (t40 : Int → Int → Int → Int → ByteArray → List (List D) → Rs) (t41 : Int → Int → Int → Int → Int → Int → Int → Int → List (List D) → Int → List (List D) → List (List D) → List (List D) → ByteArray → Rs) (t42 : Int → Int → Int → Int → Int → Int → Int → Int → List (List D) → Int → List (List D) → List (List D) → List (List D) → Rs) (t43 : List (List D) → Int → Rs) (n164 : Int) (n165 : Int) (n166 : Int) (n167 : Int) (n168 : Int) (n169 : Int) (n170 : Int) (n171 : Int) (l172 : List (List D)) (n173 : Int) (l174 : List (List D)) (l175 : List (List D)) (l176 : List (List D)) (b177 : Bool) (b179 : Bool) (n180 : Int) (b181 : Bool) (b182 : Bool) (b183 : Bool) (b184 : Bool) (n187 : Int) (n188 : Int) (n189 : Int) (n190 : Int) (n191 : Int) (n192 : Int) (n193 : Int) (n194 : Int) (l195 : List (List D)) (n196 : Int) (l197 : List (List D)) (l198 : List (List D)) (l199 : List (List D)) (l200 : List (List D)) (q1 : Int → Bool → Bool → Rs) (q2 : Int → Bool → SV → Rs) : Nat → Int → SV → SV → Rs
  | 0, _, _, _ => none
  | m + 1, n178, v185, v186 =>
    let y1 := decide (n178 < n188)
    if y1 then
     let y2 := l199.getD n178.toNat []
     chk (decide (0 ≤ n178) && decide (n178 < l199.length) && isRow z3 y2) <|
     let y3 := l198.getD n178.toNat []
     let y4 := decide ((asI (nthD y2 0)) < (0 : Int))
     chk ((decide (0 ≤ n178) && decide (n178 < l198.length) && isRow z3 y3) || !(!y4)) <|
     let y5 := l199.getD n178.toNat []
     chk ((decide (0 ≤ n178) && decide (n178 < l199.length) && isRow z3 y5) || !(!y4)) <|
     let y6 := l198.getD n178.toNat []
     let y7 := y4 || (decide ((asI (nthD y3 0)) ≤ (asI (nthD y5 0))))
     chk ((decide (0 ≤ n178) && decide (n178 < l198.length) && isRow z3 y6) || !(!y7)) <|
     let y8 := t42 n187 n188 n189 n190 n191 n192 n193 n194 l195 n196 l197 l198 l199
     chk ((okR zr42 zo42 y8) || !(!y7)) <|
     let y9 := y7 || (decide ((asI (nthD y6 0)) > (w64 ((asI (resC y8 0 0)) + (1 : Int)))))
     if y9 then
      q1 n178 y1 y9
     else
      la11o8 t39 t40 t41 t42 t43 n164 n165 n166 n167 n168 n169 n170 n171 l172 n173 l174 l175 l176 b177 b179 n180 b181 b182 b183 b184 n187 n188 n189 n190 n191 n192 n193 n194 l195 n196 l197 l198 l199 l200 q1 q2 m (w64 (n178 + (1 : Int))) (.d (.b y1)) (.d (.b y9))
    else
     q2 n178 y1 (keepV [64, 1925] v186)
def la11o3 (t39 : Int → Int → Int → Rs) (t40 : Int → Int → Int → Int → ByteArray → List (List D) → Rs) (t41 : Int → Int → Int → Int → Int → Int → Int → Int → List (List D) → Int → List (List D) → List (List D) → List (List D) → ByteArray → Rs) (t42 : Int → Int → Int → Int → Int → Int → Int → Int → List (List D) → Int → List (List D) → List (List D) → List (List D) → Rs) (t43 : List (List D) → Int → Rs) (n47 : Int) (n48 : Int) (n49 : Int) (n50 : Int) (n51 : Int) (n52 : Int) (n53 : Int) (n54 : Int) (l55 : List (List D)) (n56 : Int) (l57 : List (List D)) (l58 : List (List D)) (l59 : List (List D)) (b60 : Bool) (b62 : Bool) (n63 : Int) (b64 : Bool) (b65 : Bool) (n68 : Int) (n69 : Int) (n70 : Int) (n71 : Int) (n72 : Int) (n73 : Int) (n74 : Int) (n75 : Int) (l76 : List (List D)) (n77 : Int) (l78 : List (List D)) (l79 : List (List D)) (l80 : List (List D)) (l81 : List (List D)) (q1 : Int → Bool → Bool → Rs) (q2 : Int → Bool → SV → Rs) : Nat → Int → SV → SV → Rs
  | 0, _, _, _ => none
  | m + 1, n61, v66, v67 =>
    let y1 := decide (n61 < (l78.length : Int))
    if y1 then
     let y2 := l78.getD n61.toNat []
     chk (decide (0 ≤ n61) && decide (n61 < l78.length) && isRow z3 y2) <|
     let y3 := t39 (asI (nthD y2 0)) (0 : Int) (w64 (n69 - (1 : Int)))
     chk (okR zr39 zo39 y3) <|
     let y4 := w64 (n61 - (1 : Int))
     let y5 := l78.getD y4.toNat []
     let y6 := !(asB (resC y3 0 0))
     let y7 := !y6
     let y8 := decide (n61 > (0 : Int))
     chk ((decide (0 ≤ y4) && decide (y4 < l78.length) && isRow z3 y5) || !(y7 && y8)) <|
     let y9 := l78.getD n61.toNat []
     chk ((decide (0 ≤ n61) && decide (n61 < l78.length) && isRow z3 y9) || !(y7 && y8)) <|
     let y10 := y6 || (y8 && (decide ((asI (nthD y5 0)) ≥ (asI (nthD y9 0)))))
     if y10 then
      q1 n61 y1 y10
     else
      la11o3 t39 t40 t41 t42 t43 n47 n48 n49 n50 n51 n52 n53 n54 l55 n56 l57 l58 l59 b60 b62 n63 b64 b65 n68 n69 n70 n71 n72 n73 n74 n75 l76 n77 l78 l79 l80 l81 q1 q2 m (w64 (n61 + (1 : Int))) (.d (.b y1)) (.d (.b y10))
    else
     q2 n61 y1 (keepV [64, 1925] v67)
def ta11 (t39 : Int → Int → Int → Rs) (t40 : Int → Int → Int → Int → ByteArray → List (List D) → Rs) (t41 : Int → Int → Int → Int → Int → Int → Int → Int → List (List D) → Int → List (List D) → List (List D) → List (List D) → ByteArray → Rs) (t42 : Int → Int → Int → Int → Int → Int → Int → Int → List (List D) → Int → List (List D) → List (List D) → List (List D) → Rs) (t43 : List (List D) → Int → Rs) (n1 : Int) (n2 : Int) (n3 : Int) (n4 : Int) (n5 : Int) (n6 : Int) (n7 : Int) (n8 : Int) (l9 : List (List D)) (n10 : Int) (l11 : List (List D)) (l12 : List (List D)) (l13 : List (List D)) : Rs :=
  let y1 := t39 n2 (1 : Int) (5 : Int)
  chk (okR zr39 zo39 y1) <|
  let y2 := t39 n1 (0 : Int) (w64 (n2 - (1 : Int)))
  let y3 := !(asB (resC y1 0 0))
  chk ((okR zr39 zo39 y2) || !(!y3)) <|
  let y4 := (y3 || (!(asB (resC y2 0 0)))) || ((n7 == (0 : Int)) && (n8 != (0 : Int)))
  if !y4 then
   let y5 := t41 n1 n2 n3 n4 n5 n6 n7 n8 l9 n10 l11 l12 l13 (⟨#[]⟩ : ByteArray)
   chk (okR zr41 zo41 y5) <|
   let y6 := asL (resC y5 0 5)
   let y7 := t40 (asI (resC y5 0 0)) (asI (resC y5 0 1)) (asI (resC y5 0 2)) (asI (resC y5 0 3)) (asS (resC y5 0 4)) y6
   chk ((okR zr40 zo40 y7) || !(!y4)) <|
   let y8 := t42 n1 n2 n3 n4 n5 n6 n7 n8 l9 n10 l11 l12 l13
   let y9 := (y4 || (!(asB (resC y7 0 0)))) || (decide (n4 ≥ n2))
   chk ((okR zr42 zo42 y8) || !(!y9)) <|
   let y10 := t39 n10 n7 (asI (resC y8 0 0))
   chk ((okR zr39 zo39 y10) || !(!y9)) <|
   let y11 := y9 || (!(asB (resC y10 0 0)))
   if y11 then
    some ([.one (.b false)], [])
   else
    let y12 := n5 == (1 : Int)
    if y12 then
     let y13 := t39 n6 (-1 : Int) (w64 (n2 - (1 : Int)))
     chk (okR zr39 zo39 y13) <|
     some ([.one (.b (((((asB (resC y13 0 0)) && (n6 != n1)) && ((l11.length : Int) == (0 : Int))) && ((l12.length : Int) == (0 : Int))) && ((l13.length : Int) == (0 : Int))))], [])
    else
     let y14 := n5 == (2 : Int)
     if y14 then
      la11o3 t39 t40 t41 t42 t43 n1 n2 n3 n4 n5 n6 n7 n8 l9 n10 l11 l12 l13 false y11 n5 y12 y14 n1 n2 n3 n4 n5 n6 n7 n8 l9 n10 l11 l12 l13 y6
       (fun (n123 : Int) (b124 : Bool) (b125 : Bool) =>
        some ([.one (.b false)], []))
       (fun (n126 : Int) (b127 : Bool) (v128 : SV) =>
        let y15 := ((decide (n3 ≥ (1 : Int))) && (n4 == n1)) && (n6 == (-1 : Int))
        chk ((okR zr43 zo43 (t43 l11 n1)) || !y15) <|
        some ([.one (.b ((((y15 && (asB (resC (t43 l11 n1) 0 0))) && (decide ((w64 ((2 : Int) * (l11.length : Int))) ≤ n2))) && ((l12.length : Int) == (0 : Int))) && ((l13.length : Int) == (0 : Int))))], [])) KK (0 : Int) SV.undef SV.undef
     else
      let y16 := n5 == (3 : Int)
      if y16 then
       let y17 := l13.getD n1.toNat []
       let y18 := (((((decide (n3 < (1 : Int))) || (n4 != n1)) || (n6 != n1)) || (decide ((l11.length : Int) > (0 : Int)))) || ((l12.length : Int) != n2)) || ((l13.length : Int) != n2)
       chk ((decide (0 ≤ n1) && decide (n1 < l13.length) && isRow z3 y17) || !(!y18)) <|
       let y19 := t42 n1 n2 n3 n4 n5 n6 n7 n8 l9 n10 l11 l12 l13
       chk ((okR zr42 zo42 y19) || !(!y18)) <|
       let y20 := y18 || ((asI (nthD y17 0)) != (asI (resC y19 0 0)))
       if y20 then
        some ([.one (.b false)], [])
       else
        la11o8 t39 t40 t41 t42 t43 n1 n2 n3 n4 n5 n6 n7 n8 l9 n10 l11 l12 l13 false y11 n5 y12 y14 y16 y20 n1 n2 n3 n4 n5 n6 n7 n8 l9 n10 l11 l12 l13 y6
         (fun (n244 : Int) (b245 : Bool) (b246 : Bool) =>
          some ([.one (.b false)], []))
         (fun (n247 : Int) (b248 : Bool) (v249 : SV) =>
          some ([.one (.b true)], [])) KK (0 : Int) SV.undef SV.undef
      else
       some ([.one (.b false)], [])
  else
   if !y4 then
    none
   else
    if !y4 then
     none
    else
     chk (y4) <|
     let y21 := t42 n1 n2 n3 n4 n5 n6 n7 n8 l9 n10 l11 l12 l13
     chk ((okR zr42 zo42 y21) || !false) <|
     chk ((okR zr39 zo39 (t39 n10 n7 (asI (resC y21 0 0)))) || !false) <|
     some ([.one (.b false)], [])
theorem te11 : ta11 tu39 tu40 tu41 tu42 tu43 = t11 := (by rw [tu39_eq, tu40_eq, tu41_eq, tu42_eq, tu43_eq] : ta11 tu39 tu40 tu41 tu42 tu43 = ta11 t39 t40 t41 t42 t43).trans (by kernel_rfl)
def tw11 (vs : List Vr) : Rs := ta11 tu39 tu40 tu41 tu42 tu43 (vI vs 0) (vI vs 1) (vI vs 2) (vI vs 3) (vI vs 4) (vI vs 5) (vI vs 6) (vI vs 7) (vL vs 8) (vI vs 9) (vL vs 10) (vL vs 11) (vL vs 12)
def tp11 (vs : List Vr) : Rs := tu11 (vI vs 0) (vI vs 1) (vI vs 2) (vI vs 3) (vI vs 4) (vI vs 5) (vI vs 6) (vI vs 7) (vL vs 8) (vI vs 9) (vL vs 10) (vL vs 11) (vL vs 12)
theorem tpw11 : tp11 = tw11 := funext fun vs => by unfold tp11 tw11; rw [tu11_eq, te11]
def th11 (xs : List DV) : Bool × List DV × List (List D) := gOf zr11 zo11 (argsT A11 tp11 xs)
theorem te61 : t61 = t61 := rfl
def tw61 (vs : List Vr) : Rs := t61 (vI vs 0) (vI vs 1) (vI vs 2) (vI vs 3) (vI vs 4) (vI vs 5) (vI vs 6) (vI vs 7) (vL vs 8) (vI vs 9) (vL vs 10) (vL vs 11) (vL vs 12)
def tp61 (vs : List Vr) : Rs := tu61 (vI vs 0) (vI vs 1) (vI vs 2) (vI vs 3) (vI vs 4) (vI vs 5) (vI vs 6) (vI vs 7) (vL vs 8) (vI vs 9) (vL vs 10) (vL vs 11) (vL vs 12)
theorem tpw61 : tp61 = tw61 := funext fun vs => by unfold tp61 tw61; rw [tu61_eq, te61]
def th61 (xs : List DV) : Bool × List DV × List (List D) := gOf zr61 zo61 (argsT A61 tp61 xs)
theorem te62 : t62 = t62 := rfl
def tw62 (vs : List Vr) : Rs := t62 (vI vs 0) (vI vs 1) (vI vs 2) (vI vs 3) (vI vs 4) (vI vs 5) (vI vs 6) (vI vs 7) (vL vs 8) (vI vs 9) (vL vs 10) (vL vs 11) (vL vs 12) (vI vs 13)
def tp62 (vs : List Vr) : Rs := tu62 (vI vs 0) (vI vs 1) (vI vs 2) (vI vs 3) (vI vs 4) (vI vs 5) (vI vs 6) (vI vs 7) (vL vs 8) (vI vs 9) (vL vs 10) (vL vs 11) (vL vs 12) (vI vs 13)
theorem tpw62 : tp62 = tw62 := funext fun vs => by unfold tp62 tw62; rw [tu62_eq, te62]
def th62 (xs : List DV) : Bool × List DV × List (List D) := gOf zr62 zo62 (argsT A62 tp62 xs)
def la83o100002 (t42 : Int → Int → Int → Int → Int → Int → Int → Int → List (List D) → Int → List (List D) → List (List D) → List (List D) → Rs) (t62 : Int → Int → Int → Int → Int → Int → Int → Int → List (List D) → Int → List (List D) → List (List D) → List (List D) → Int → Rs) (n242 : Int) (n243 : Int) (n244 : Int) (n245 : Int) (n246 : Int) (n247 : Int) (n248 : Int) (n249 : Int) (n250 : Int) (n251 : Int) (b254 : Bool) (n258 : Int) (n259 : Int) (n260 : Int) (n261 : Int) (n262 : Int) (n263 : Int) (n264 : Int) (n265 : Int) (n266 : Int) (n267 : Int) (n268 : Int) (n269 : Int) (n270 : Int) (n271 : Int) (n272 : Int) (n273 : Int) (n274 : Int) (n275 : Int) (l276 : List (List D)) (l277 : List (List D)) (l278 : List (List D)) (l279 : List (List D)) (q1 : Int → Int → Bool → SV → SV → Rs) : Nat → Int → Int → SV → SV → SV → Rs
  | 0, _, _, _, _, _ => none
  | m + 1, n252, n253, v255, v256, v257 =>
    let y1 := decide (n253 < n259)
    if y1 then
     chk (decide (0 ≤ n253) && decide (n253 < l279.length)) <|
     let y2 := l279.getD (n253.toNat) []
     chk (decide (1 ≤ y2.length) && isF z3 0 y2) <|
     let k1 := fun (n280 : Int) =>
      let y3 := decide ((asI (nthD y2 0)) ≥ n251)
      la83o100002 t42 t62 n242 n243 n244 n245 n246 n247 n248 n249 n250 n251 b254 n258 n259 n260 n261 n262 n263 n264 n265 n266 n267 n268 n269 n270 n271 n272 n273 n274 n275 l276 l277 l278 l279 q1 m n280 (w64 (n253 + (1 : Int))) (.d (.b y1)) (.d (.b y3)) (keepV [64, 128, 4105, 4107, 4108, 4109] v257)
     let y4 := decide ((asI (nthD y2 0)) ≥ n251)
     if y4 then
      k1 (w64 (n252 + (1 : Int)))
     else
      k1 n252
    else
     q1 n252 n253 y1 (keepV [64, 128, 4105, 4107, 4108, 4109] v256) (keepV [64, 128, 4105, 4107, 4108, 4109] v257)
def la83o0 (t42 : Int → Int → Int → Int → Int → Int → Int → Int → List (List D) → Int → List (List D) → List (List D) → List (List D) → Rs) (t62 : Int → Int → Int → Int → Int → Int → Int → Int → List (List D) → Int → List (List D) → List (List D) → List (List D) → Int → Rs) (n165 : Int) (n166 : Int) (n167 : Int) (n168 : Int) (n169 : Int) (n170 : Int) (n171 : Int) (n172 : Int) (n173 : Int) (n181 : Int) (n182 : Int) (n183 : Int) (n184 : Int) (n185 : Int) (n186 : Int) (n187 : Int) (n188 : Int) (n189 : Int) (n190 : Int) (n191 : Int) (n192 : Int) (n193 : Int) (n194 : Int) (n195 : Int) (n196 : Int) (n197 : Int) (n198 : Int) (l199 : List (List D)) (l200 : List (List D)) (l201 : List (List D)) (l202 : List (List D)) (q1 : Int → Int → Int → Bool → Bool → SV → Bool → Rs) (q2 : Int → SV → SV → Bool → SV → SV → SV → Rs) : Nat → Int → SV → SV → SV → SV → SV → SV → Rs
  | 0, _, _, _, _, _, _, _ => none
  | m + 1, n174, v175, v176, v177, v178, v179, v180 =>
    let y1 := decide (n174 > n189)
    if y1 then
     la83o100002 t42 t62 n165 n166 n167 n168 n169 n170 n171 n172 n173 n174 y1 n181 n182 n183 n184 n185 n186 n187 n188 n189 n190 n191 n192 n193 n194 n195 n196 n197 n198 l199 l200 l201 l202
      (fun (n324 : Int) (n325 : Int) (b326 : Bool) (v327 : SV) (v328 : SV) =>
       let y2 := t62 n181 n182 n183 n184 n185 n186 n187 n188 l199 n189 l200 l201 l202 n174
       chk (okR zr62 zo62 y2) <|
       let y3 := ((asI (resC y2 0 0)) == n183) && (decide ((w64 ((2 : Int) * n324)) > n182))
       if y3 then
        q1 n174 n324 n325 y1 b326 v327 y3
       else
        la83o0 t42 t62 n165 n166 n167 n168 n169 n170 n171 n172 n173 n181 n182 n183 n184 n185 n186 n187 n188 n189 n190 n191 n192 n193 n194 n195 n196 n197 n198 l199 l200 l201 l202 q1 q2 m (w64 (n174 - (1 : Int))) (.d (.i .i64 n324)) (.d (.i .i64 n325)) (.d (.b y1)) (.d (.b b326)) (keepV [64, 128, 4105, 4107, 4108, 4109] v327) (.d (.b y3))) KK (0 : Int) (0 : Int) v178 v179 v180
    else
     q2 n174 (keepV [64, 128, 4105, 4107, 4108, 4109] v175) (keepV [64, 128, 4105, 4107, 4108, 4109] v176) y1 (keepV [64, 128, 4105, 4107, 4108, 4109] v178) (keepV [64, 128, 4105, 4107, 4108, 4109] v179) (keepV [64, 128, 4105, 4107, 4108, 4109] v180)
def ta83 (t42 : Int → Int → Int → Int → Int → Int → Int → Int → List (List D) → Int → List (List D) → List (List D) → List (List D) → Rs) (t62 : Int → Int → Int → Int → Int → Int → Int → Int → List (List D) → Int → List (List D) → List (List D) → List (List D) → Int → Rs) (n1 : Int) (n2 : Int) (n3 : Int) (n4 : Int) (n5 : Int) (n6 : Int) (n7 : Int) (n8 : Int) (l9 : List (List D)) (n10 : Int) (l11 : List (List D)) (l12 : List (List D)) (l13 : List (List D)) : Rs :=
  let y1 := t42 n1 n2 n3 n4 n5 n6 n7 n8 l9 n10 l11 l12 l13
  chk (okR zr42 zo42 y1) <|
  la83o0 t42 t62 n1 n2 n3 n4 n5 n6 n7 n8 n10 n1 n2 n3 n4 n5 n6 n7 n8 n10 (0 : Int) (0 : Int) (0 : Int) (0 : Int) (0 : Int) (0 : Int) (0 : Int) (0 : Int) (0 : Int) l9 l11 l12 l13
   (fun (n381 : Int) (n382 : Int) (n383 : Int) (b384 : Bool) (b385 : Bool) (v386 : SV) (b387 : Bool) =>
    some ([.agg [.i .i64 n1, .i .i64 n2, .i .i64 n3, .i .i64 n4, .i .i64 n5, .i .i64 n6, .i .i64 n7, .i .i64 n8, .l l9, .i .i64 n381, .l l11, .l l12, .l l13]], []))
   (fun (n388 : Int) (v389 : SV) (v390 : SV) (b391 : Bool) (v392 : SV) (v393 : SV) (v394 : SV) =>
    some ([.agg [.i .i64 n1, .i .i64 n2, .i .i64 n3, .i .i64 n4, .i .i64 n5, .i .i64 n6, .i .i64 n7, .i .i64 n8, .l l9, .i .i64 n10, .l l11, .l l12, .l l13]], [])) KK (asI (resC y1 0 0)) SV.undef SV.undef SV.undef SV.undef SV.undef SV.undef
theorem te83 : ta83 tu42 tu62 = t83 := (by rw [tu42_eq, tu62_eq] : ta83 tu42 tu62 = ta83 t42 t62).trans (by kernel_rfl)
def tw83 (vs : List Vr) : Rs := ta83 tu42 tu62 (vI vs 0) (vI vs 1) (vI vs 2) (vI vs 3) (vI vs 4) (vI vs 5) (vI vs 6) (vI vs 7) (vL vs 8) (vI vs 9) (vL vs 10) (vL vs 11) (vL vs 12)
def tp83 (vs : List Vr) : Rs := tu83 (vI vs 0) (vI vs 1) (vI vs 2) (vI vs 3) (vI vs 4) (vI vs 5) (vI vs 6) (vI vs 7) (vL vs 8) (vI vs 9) (vL vs 10) (vL vs 11) (vL vs 12)
theorem tpw83 : tp83 = tw83 := funext fun vs => by unfold tp83 tw83; rw [tu83_eq, te83]
def th83 (xs : List DV) : Bool × List DV × List (List D) := gOf zr83 zo83 (argsT A83 tp83 xs)
def ta69 (t42 : Int → Int → Int → Int → Int → Int → Int → Int → List (List D) → Int → List (List D) → List (List D) → List (List D) → Rs) (t83 : Int → Int → Int → Int → Int → Int → Int → Int → List (List D) → Int → List (List D) → List (List D) → List (List D) → Rs) (n1 : Int) (n2 : Int) (n3 : Int) (n4 : Int) (n5 : Int) (n6 : Int) (n7 : Int) (n8 : Int) (l9 : List (List D)) (n10 : Int) (l11 : List (List D)) (l12 : List (List D)) (l13 : List (List D)) (s14 : ByteArray) : Rs :=
  let y1 := t42 n1 n2 n3 n4 n5 n6 n7 n8 l9 n10 l11 l12 l13
  let y2 := decide ((l9.length : Int) < (60 : Int))
  chk ((okR zr42 zo42 y1) || !y2) <|
  if y2 && (decide ((asI (resC y1 0 0)) < (100000 : Int))) then
   let y3 := ([[.i .i64 n3, .s s14]] : List (List D))
   chk ((flatR 2 y3) && decide (l9.length + y3.length ≤ lim)) <|
   let y4 := l9 ++ y3
   let y5 := t42 n1 n2 n3 n4 n5 n6 n7 n8 y4 n10 l11 l12 l13
   chk (okR zr42 zo42 y5) <|
   chk (decide (0 ≤ n1) && decide (n1 < l13.length)) <|
   chk (decide (1 ≤ 1 ∧ (n1.toNat) < l13.length)) <|
   let y6 := stR l13 (n1.toNat) 0 [.i .i64 (asI (resC y5 0 0))]
   let y7 := t42 n1 n2 n3 n4 n5 n6 n7 n8 y4 n10 l11 l12 y6
   chk (okR zr42 zo42 y7) <|
   chk (decide (0 ≤ n1) && decide (n1 < l12.length)) <|
   chk (decide (1 ≤ 1 ∧ (n1.toNat) < l12.length)) <|
   let y8 := t83 n1 n2 n3 n4 n5 n6 n7 n8 y4 n10 l11 (stR l12 (n1.toNat) 0 [.i .i64 (w64 ((asI (resC y7 0 0)) + (1 : Int)))]) y6
   chk (okR zr83 zo83 y8) <|
   some ([.agg [.i .i64 (asI (resC y8 0 0)), .i .i64 (asI (resC y8 0 1)), .i .i64 (asI (resC y8 0 2)), .i .i64 (asI (resC y8 0 3)), .i .i64 (asI (resC y8 0 4)), .i .i64 (asI (resC y8 0 5)), .i .i64 (asI (resC y8 0 6)), .i .i64 (asI (resC y8 0 7)), .l (asL (resC y8 0 8)), .i .i64 (asI (resC y8 0 9)), .l (asL (resC y8 0 10)), .l (asL (resC y8 0 11)), .l (asL (resC y8 0 12))]], [])
  else
   let y9 := t42 n1 n2 n3 n4 n5 n6 n7 n8 l9 n10 l11 l12 l13
   chk (okR zr42 zo42 y9) <|
   chk (decide (0 ≤ n1) && decide (n1 < l13.length)) <|
   chk (decide (1 ≤ 1 ∧ (n1.toNat) < l13.length)) <|
   let y10 := stR l13 (n1.toNat) 0 [.i .i64 (asI (resC y9 0 0))]
   let y11 := t42 n1 n2 n3 n4 n5 n6 n7 n8 l9 n10 l11 l12 y10
   chk (okR zr42 zo42 y11) <|
   chk (decide (0 ≤ n1) && decide (n1 < l12.length)) <|
   chk (decide (1 ≤ 1 ∧ (n1.toNat) < l12.length)) <|
   let y12 := t83 n1 n2 n3 n4 n5 n6 n7 n8 l9 n10 l11 (stR l12 (n1.toNat) 0 [.i .i64 (w64 ((asI (resC y11 0 0)) + (1 : Int)))]) y10
   chk (okR zr83 zo83 y12) <|
   some ([.agg [.i .i64 (asI (resC y12 0 0)), .i .i64 (asI (resC y12 0 1)), .i .i64 (asI (resC y12 0 2)), .i .i64 (asI (resC y12 0 3)), .i .i64 (asI (resC y12 0 4)), .i .i64 (asI (resC y12 0 5)), .i .i64 (asI (resC y12 0 6)), .i .i64 (asI (resC y12 0 7)), .l (asL (resC y12 0 8)), .i .i64 (asI (resC y12 0 9)), .l (asL (resC y12 0 10)), .l (asL (resC y12 0 11)), .l (asL (resC y12 0 12))]], [])
theorem te69 : ta69 tu42 tu83 = t69 := (by rw [tu42_eq, tu83_eq] : ta69 tu42 tu83 = ta69 t42 t83).trans (by kernel_rfl)
def tw69 (vs : List Vr) : Rs := ta69 tu42 tu83 (vI vs 0) (vI vs 1) (vI vs 2) (vI vs 3) (vI vs 4) (vI vs 5) (vI vs 6) (vI vs 7) (vL vs 8) (vI vs 9) (vL vs 10) (vL vs 11) (vL vs 12) (vS vs 13)
def tp69 (vs : List Vr) : Rs := tu69 (vI vs 0) (vI vs 1) (vI vs 2) (vI vs 3) (vI vs 4) (vI vs 5) (vI vs 6) (vI vs 7) (vL vs 8) (vI vs 9) (vL vs 10) (vL vs 11) (vL vs 12) (vS vs 13)
theorem tpw69 : tp69 = tw69 := funext fun vs => by unfold tp69 tw69; rw [tu69_eq, te69]
def th69 (xs : List DV) : Bool × List DV × List (List D) := gOf zr69 zo69 (argsT A69 tp69 xs)
def la80o1 (t42 : Int → Int → Int → Int → Int → Int → Int → Int → List (List D) → Int → List (List D) → List (List D) → List (List D) → Rs) (t62 : Int → Int → Int → Int → Int → Int → Int → Int → List (List D) → Int → List (List D) → List (List D) → List (List D) → Int → Rs) (n64 : Int) (n65 : Int) (n66 : Int) (n67 : Int) (n68 : Int) (n69 : Int) (n70 : Int) (n71 : Int) (l72 : List (List D)) (n73 : Int) (l74 : List (List D)) (l75 : List (List D)) (l76 : List (List D)) (n77 : Int) (n78 : Int) (b80 : Bool) (n82 : Int) (n83 : Int) (n84 : Int) (n85 : Int) (n86 : Int) (n87 : Int) (n88 : Int) (n89 : Int) (l90 : List (List D)) (n91 : Int) (l92 : List (List D)) (l93 : List (List D)) (l94 : List (List D)) (n95 : Int) (n96 : Int) (n97 : Int) (n98 : Int) (n99 : Int) (n100 : Int) (n101 : Int) (b102 : Bool) (s103 : ByteArray) (n104 : Int) (n105 : Int) (n106 : Int) (n107 : Int) (n108 : Int) (n109 : Int) (n110 : Int) (b111 : Bool) (s112 : ByteArray) (q1 : Int → Bool → List (List D) → Rs) : Nat → Int → SV → List (List D) → Rs
  | 0, _, _, _ => none
  | m + 1, n79, v81, l113 =>
    let y1 := t42 n82 n83 n84 n85 n86 n87 n88 n89 l90 n91 l92 l93 l94
    chk (okR zr42 zo42 y1) <|
    let y2 := (decide (n79 ≤ (asI (resC y1 0 0)))) && (decide (n79 < (w64 (n78 + (4 : Int)))))
    if y2 then
     let y3 := w64 ((w64 (n79 - n88)) - (1 : Int))
     let y4 := l90.getD y3.toNat []
     chk (decide (0 ≤ y3) && decide (y3 < l90.length) && isRow z92 y4) <|
     let y5 := ([[.i .i64 (asI (nthD y4 0)), .s (asS (nthD y4 1))]] : List (List D))
     chk ((flatR 2 y5) && decide (l113.length + y5.length ≤ lim)) <|
     la80o1 t42 t62 n64 n65 n66 n67 n68 n69 n70 n71 l72 n73 l74 l75 l76 n77 n78 b80 n82 n83 n84 n85 n86 n87 n88 n89 l90 n91 l92 l93 l94 n95 n96 n97 n98 n99 n100 n101 b102 s103 n104 n105 n106 n107 n108 n109 n110 b111 s112 q1 m (w64 (n79 + (1 : Int))) (.d (.b y2)) (l113 ++ y5)
    else
     q1 n79 y2 l113
def ta80 (t42 : Int → Int → Int → Int → Int → Int → Int → Int → List (List D) → Int → List (List D) → List (List D) → List (List D) → Rs) (t62 : Int → Int → Int → Int → Int → Int → Int → Int → List (List D) → Int → List (List D) → List (List D) → List (List D) → Int → Rs) (n1 : Int) (n2 : Int) (n3 : Int) (n4 : Int) (n5 : Int) (n6 : Int) (n7 : Int) (n8 : Int) (l9 : List (List D)) (n10 : Int) (l11 : List (List D)) (l12 : List (List D)) (l13 : List (List D)) (n14 : Int) : Rs :=
  let y1 := l12.getD n14.toNat []
  chk (decide (0 ≤ n14) && decide (n14 < l12.length) && isRow z3 y1) <|
  let y2 := asI (nthD y1 0)
  let y3 := decide (y2 ≤ n7)
  if y3 then
   some ([.agg [.i .i64 (5 : Int), .i .i64 n1, .i .i64 n14, .i .i64 n3, .i .i64 n7, .i .i64 n8, .i .i64 (0 : Int), .b false, .l ([] : List (List D)), .s (⟨#[]⟩ : ByteArray)]], [])
  else
   let y4 := t62 n1 n2 n3 n4 n5 n6 n7 n8 l9 n10 l11 l12 l13 (w64 (y2 - (1 : Int)))
   chk (okR zr62 zo62 y4) <|
   let y5 := w64 (y2 - (1 : Int))
   let y6 := asI (resC y4 0 0)
   la80o1 t42 t62 n1 n2 n3 n4 n5 n6 n7 n8 l9 n10 l11 l12 l13 n14 y2 y3 n1 n2 n3 n4 n5 n6 n7 n8 l9 n10 l11 l12 l13 (0 : Int) (0 : Int) (0 : Int) (0 : Int) (0 : Int) (0 : Int) (0 : Int) false (⟨#[]⟩ : ByteArray) (3 : Int) n1 n14 n3 y5 y6 n10 false (⟨#[]⟩ : ByteArray)
    (fun (n167 : Int) (b168 : Bool) (l169 : List (List D)) =>
     some ([.agg [.i .i64 (3 : Int), .i .i64 n1, .i .i64 n14, .i .i64 n3, .i .i64 y5, .i .i64 y6, .i .i64 n10, .b false, .l l169, .s (⟨#[]⟩ : ByteArray)]], [])) KK y2 SV.undef ([] : List (List D))
theorem te80 : ta80 tu42 tu62 = t80 := (by rw [tu42_eq, tu62_eq] : ta80 tu42 tu62 = ta80 t42 t62).trans (by kernel_rfl)
def tw80 (vs : List Vr) : Rs := ta80 tu42 tu62 (vI vs 0) (vI vs 1) (vI vs 2) (vI vs 3) (vI vs 4) (vI vs 5) (vI vs 6) (vI vs 7) (vL vs 8) (vI vs 9) (vL vs 10) (vL vs 11) (vL vs 12) (vI vs 13)
def tp80 (vs : List Vr) : Rs := tu80 (vI vs 0) (vI vs 1) (vI vs 2) (vI vs 3) (vI vs 4) (vI vs 5) (vI vs 6) (vI vs 7) (vL vs 8) (vI vs 9) (vL vs 10) (vL vs 11) (vL vs 12) (vI vs 13)
theorem tpw80 : tp80 = tw80 := funext fun vs => by unfold tp80 tw80; rw [tu80_eq, te80]
def th80 (xs : List DV) : Bool × List DV × List (List D) := gOf zr80 zo80 (argsT A80 tp80 xs)
def la65o0 (t80 : Int → Int → Int → Int → Int → Int → Int → Int → List (List D) → Int → List (List D) → List (List D) → List (List D) → Int → Rs) (n43 : Int) (n44 : Int) (n45 : Int) (n46 : Int) (n47 : Int) (n48 : Int) (n49 : Int) (n50 : Int) (l51 : List (List D)) (n52 : Int) (l53 : List (List D)) (l54 : List (List D)) (l55 : List (List D)) (n59 : Int) (n60 : Int) (n61 : Int) (n62 : Int) (n63 : Int) (n64 : Int) (n65 : Int) (n66 : Int) (l67 : List (List D)) (n68 : Int) (l69 : List (List D)) (l70 : List (List D)) (l71 : List (List D)) (q1 : Int → Bool → SV → List (List D) → Rs) : Nat → Int → SV → SV → List (List D) → Rs
  | 0, _, _, _, _ => none
  | m + 1, n56, v57, v58, l72 =>
    let y1 := decide (n56 < n60)
    if y1 then
     let k1 := fun (l73 : List (List D)) =>
      la65o0 t80 n43 n44 n45 n46 n47 n48 n49 n50 l51 n52 l53 l54 l55 n59 n60 n61 n62 n63 n64 n65 n66 l67 n68 l69 l70 l71 q1 m (w64 (n56 + (1 : Int))) (.d (.b y1)) (.d (.b (n56 != n59))) l73
     if n56 != n59 then
      let y2 := t80 n59 n60 n61 n62 n63 n64 n65 n66 l67 n68 l69 l70 l71 n56
      chk (okR zr80 zo80 y2) <|
      let y3 := ([[.i .i64 (asI (resC y2 0 0)), .i .i64 (asI (resC y2 0 1)), .i .i64 (asI (resC y2 0 2)), .i .i64 (asI (resC y2 0 3)), .i .i64 (asI (resC y2 0 4)), .i .i64 (asI (resC y2 0 5)), .i .i64 (asI (resC y2 0 6)), .b (asB (resC y2 0 7)), .l (asL (resC y2 0 8)), .s (asS (resC y2 0 9))]] : List (List D))
      chk (true && decide (l72.length + y3.length ≤ lim)) <|
      k1 (l72 ++ y3)
     else
      k1 l72
    else
     q1 n56 y1 (keepV [64, 320] v58) l72
def ta65 (t80 : Int → Int → Int → Int → Int → Int → Int → Int → List (List D) → Int → List (List D) → List (List D) → List (List D) → Int → Rs) (n1 : Int) (n2 : Int) (n3 : Int) (n4 : Int) (n5 : Int) (n6 : Int) (n7 : Int) (n8 : Int) (l9 : List (List D)) (n10 : Int) (l11 : List (List D)) (l12 : List (List D)) (l13 : List (List D)) : Rs :=
  la65o0 t80 n1 n2 n3 n4 n5 n6 n7 n8 l9 n10 l11 l12 l13 n1 n2 n3 n4 n5 n6 n7 n8 l9 n10 l11 l12 l13
   (fun (n108 : Int) (b109 : Bool) (v110 : SV) (l111 : List (List D)) =>
    some ([.one (.l l111)], [])) KK (0 : Int) SV.undef SV.undef ([] : List (List D))
theorem te65 : ta65 tu80 = t65 := (by rw [tu80_eq] : ta65 tu80 = ta65 t80).trans (by kernel_rfl)
def tw65 (vs : List Vr) : Rs := ta65 tu80 (vI vs 0) (vI vs 1) (vI vs 2) (vI vs 3) (vI vs 4) (vI vs 5) (vI vs 6) (vI vs 7) (vL vs 8) (vI vs 9) (vL vs 10) (vL vs 11) (vL vs 12)
def tp65 (vs : List Vr) : Rs := tu65 (vI vs 0) (vI vs 1) (vI vs 2) (vI vs 3) (vI vs 4) (vI vs 5) (vI vs 6) (vI vs 7) (vL vs 8) (vI vs 9) (vL vs 10) (vL vs 11) (vL vs 12)
theorem tpw65 : tp65 = tw65 := funext fun vs => by unfold tp65 tw65; rw [tu65_eq, te65]
def th65 (xs : List DV) : Bool × List DV × List (List D) := gOf zr65 zo65 (argsT A65 tp65 xs)
def la71o0 (t42 : Int → Int → Int → Int → Int → Int → Int → Int → List (List D) → Int → List (List D) → List (List D) → List (List D) → Rs) (t65 : Int → Int → Int → Int → Int → Int → Int → Int → List (List D) → Int → List (List D) → List (List D) → List (List D) → Rs) (t69 : Int → Int → Int → Int → Int → Int → Int → Int → List (List D) → Int → List (List D) → List (List D) → List (List D) → ByteArray → Rs) (n49 : Int) (n50 : Int) (n51 : Int) (n52 : Int) (n53 : Int) (n54 : Int) (n55 : Int) (n56 : Int) (n57 : Int) (n60 : Int) (n61 : Int) (n62 : Int) (n63 : Int) (n64 : Int) (n65 : Int) (n66 : Int) (n67 : Int) (n68 : Int) (n69 : Int) (n70 : Int) (n71 : Int) (n72 : Int) (n73 : Int) (n74 : Int) (n75 : Int) (n76 : Int) (n77 : Int) (l78 : List (List D)) (l81 : List (List D)) (l82 : List (List D)) (l83 : List (List D)) (l84 : List (List D)) (q1 : Int → Bool → List (List D) → List (List D) → Rs) : Nat → Int → SV → List (List D) → List (List D) → Rs
  | 0, _, _, _, _ => none
  | m + 1, n58, v59, l79, l80 =>
    let y1 := decide (n58 < n61)
    if y1 then
     let y2 := t42 n60 n61 n62 n63 n64 n65 n66 n67 l81 n68 l78 l79 l80
     chk (okR zr42 zo42 y2) <|
     let y3 := ([[.i .i64 (w64 ((asI (resC y2 0 0)) + (1 : Int)))]] : List (List D))
     chk ((flatR 1 y3) && decide (l79.length + y3.length ≤ lim)) <|
     let y4 := ([[.i .i64 (0 : Int)]] : List (List D))
     chk ((flatR 1 y4) && decide (l80.length + y4.length ≤ lim)) <|
     la71o0 t42 t65 t69 n49 n50 n51 n52 n53 n54 n55 n56 n57 n60 n61 n62 n63 n64 n65 n66 n67 n68 n69 n70 n71 n72 n73 n74 n75 n76 n77 l78 l81 l82 l83 l84 q1 m (w64 (n58 + (1 : Int))) (.d (.b y1)) (l79 ++ y3) (l80 ++ y4)
    else
     q1 n58 y1 l79 l80
def ta71 (t42 : Int → Int → Int → Int → Int → Int → Int → Int → List (List D) → Int → List (List D) → List (List D) → List (List D) → Rs) (t65 : Int → Int → Int → Int → Int → Int → Int → Int → List (List D) → Int → List (List D) → List (List D) → List (List D) → Rs) (t69 : Int → Int → Int → Int → Int → Int → Int → Int → List (List D) → Int → List (List D) → List (List D) → List (List D) → ByteArray → Rs) (n1 : Int) (n2 : Int) (n3 : Int) (n4 : Int) (n5 : Int) (n6 : Int) (n7 : Int) (n8 : Int) (l9 : List (List D)) (n10 : Int) (l11 : List (List D)) (l12 : List (List D)) (l13 : List (List D)) : Rs :=
  la71o0 t42 t65 t69 n1 n2 n3 n4 n5 n6 n7 n8 n10 n1 n2 n3 n4 (3 : Int) n1 n7 n8 n10 (0 : Int) (0 : Int) (0 : Int) (0 : Int) (0 : Int) (0 : Int) (0 : Int) (0 : Int) (0 : Int) ([] : List (List D)) l9 l11 l12 l13
   (fun (n125 : Int) (b126 : Bool) (l127 : List (List D)) (l128 : List (List D)) =>
    let y1 := t69 n1 n2 n3 n4 (3 : Int) n1 n7 n8 l9 n10 ([] : List (List D)) l127 l128 (⟨#[]⟩ : ByteArray)
    chk (okR zr69 zo69 y1) <|
    let y2 := asI (resC y1 0 0)
    let y3 := asI (resC y1 0 1)
    let y4 := asI (resC y1 0 2)
    let y5 := asI (resC y1 0 3)
    let y6 := asI (resC y1 0 4)
    let y7 := asI (resC y1 0 5)
    let y8 := asI (resC y1 0 6)
    let y9 := asI (resC y1 0 7)
    let y10 := asL (resC y1 0 8)
    let y11 := asI (resC y1 0 9)
    let y12 := asL (resC y1 0 10)
    let y13 := asL (resC y1 0 11)
    let y14 := asL (resC y1 0 12)
    let y15 := t65 y2 y3 y4 y5 y6 y7 y8 y9 y10 y11 y12 y13 y14
    chk (okR zr65 zo65 y15) <|
    some ([.agg [.i .i64 y2, .i .i64 y3, .i .i64 y4, .i .i64 y5, .i .i64 y6, .i .i64 y7, .i .i64 y8, .i .i64 y9, .l y10, .i .i64 y11, .l y12, .l y13, .l y14], .one (.l (asL (resC y15 0 0)))], [])) KK (0 : Int) SV.undef ([] : List (List D)) ([] : List (List D))
theorem te71 : ta71 tu42 tu65 tu69 = t71 := (by rw [tu42_eq, tu65_eq, tu69_eq] : ta71 tu42 tu65 tu69 = ta71 t42 t65 t69).trans (by kernel_rfl)
def tw71 (vs : List Vr) : Rs := ta71 tu42 tu65 tu69 (vI vs 0) (vI vs 1) (vI vs 2) (vI vs 3) (vI vs 4) (vI vs 5) (vI vs 6) (vI vs 7) (vL vs 8) (vI vs 9) (vL vs 10) (vL vs 11) (vL vs 12)
def tp71 (vs : List Vr) : Rs := tu71 (vI vs 0) (vI vs 1) (vI vs 2) (vI vs 3) (vI vs 4) (vI vs 5) (vI vs 6) (vI vs 7) (vL vs 8) (vI vs 9) (vL vs 10) (vL vs 11) (vL vs 12)
theorem tpw71 : tp71 = tw71 := funext fun vs => by unfold tp71 tw71; rw [tu71_eq, te71]
def th71 (xs : List DV) : Bool × List DV × List (List D) := gOf zr71 zo71 (argsT A71 tp71 xs)
def la35o3 (t11 : Int → Int → Int → Int → Int → Int → Int → Int → List (List D) → Int → List (List D) → List (List D) → List (List D) → Rs) (t42 : Int → Int → Int → Int → Int → Int → Int → Int → List (List D) → Int → List (List D) → List (List D) → List (List D) → Rs) (t61 : Int → Int → Int → Int → Int → Int → Int → Int → List (List D) → Int → List (List D) → List (List D) → List (List D) → Rs) (t62 : Int → Int → Int → Int → Int → Int → Int → Int → List (List D) → Int → List (List D) → List (List D) → List (List D) → Int → Rs) (t71 : Int → Int → Int → Int → Int → Int → Int → Int → List (List D) → Int → List (List D) → List (List D) → List (List D) → Rs) (n56 : Int) (n57 : Int) (n58 : Int) (n59 : Int) (n60 : Int) (n61 : Int) (n62 : Int) (n63 : Int) (l64 : List (List D)) (n65 : Int) (l66 : List (List D)) (l67 : List (List D)) (l68 : List (List D)) (b70 : Bool) (b71 : Bool) (b72 : Bool) (n75 : Int) (n76 : Int) (n77 : Int) (n78 : Int) (n79 : Int) (n80 : Int) (n81 : Int) (n82 : Int) (n83 : Int) (n84 : Int) (n85 : Int) (n86 : Int) (n87 : Int) (n88 : Int) (n89 : Int) (n90 : Int) (n91 : Int) (n92 : Int) (l94 : List (List D)) (l95 : List (List D)) (l96 : List (List D)) (l97 : List (List D)) (l98 : List (List D)) (q1 : Int → Bool → SV → List (List D) → Rs) : Nat → Int → SV → SV → List (List D) → Rs
  | 0, _, _, _, _ => none
  | m + 1, n69, v73, v74, l93 =>
    let y1 := decide (n69 < n76)
    if y1 then
     let k1 := fun (l99 : List (List D)) =>
      la35o3 t11 t42 t61 t62 t71 n56 n57 n58 n59 n60 n61 n62 n63 l64 n65 l66 l67 l68 b70 b71 b72 n75 n76 n77 n78 n79 n80 n81 n82 n83 n84 n85 n86 n87 n88 n89 n90 n91 n92 l94 l95 l96 l97 l98 q1 m (w64 (n69 + (1 : Int))) (.d (.b y1)) (.d (.b (n69 != n75))) l99
     if n69 != n75 then
      let y2 := t42 n75 n76 n77 n78 n79 n80 n81 n82 l95 n83 l94 l97 l98
      chk (okR zr42 zo42 y2) <|
      let y3 := t42 n75 n76 n77 n78 n79 n80 n81 n82 l95 n83 l94 l97 l98
      chk (okR zr42 zo42 y3) <|
      let y4 := t62 n75 n76 n77 n78 n79 n80 n81 n82 l95 n83 l94 l97 l98 (asI (resC y3 0 0))
      chk (okR zr62 zo62 y4) <|
      let y5 := ([[.i .i64 (1 : Int), .i .i64 n75, .i .i64 n69, .i .i64 n77, .i .i64 (asI (resC y2 0 0)), .i .i64 (asI (resC y4 0 0)), .i .i64 (0 : Int), .b false, .l ([] : List (List D)), .s (⟨#[]⟩ : ByteArray)]] : List (List D))
      chk (true && decide (l93.length + y5.length ≤ lim)) <|
      k1 (l93 ++ y5)
     else
      k1 l93
    else
     q1 n69 y1 (keepV [64, 128, 512, 2368, 4105, 4107, 4108, 4109] v74) l93
def ta35 (t11 : Int → Int → Int → Int → Int → Int → Int → Int → List (List D) → Int → List (List D) → List (List D) → List (List D) → Rs) (t42 : Int → Int → Int → Int → Int → Int → Int → Int → List (List D) → Int → List (List D) → List (List D) → List (List D) → Rs) (t61 : Int → Int → Int → Int → Int → Int → Int → Int → List (List D) → Int → List (List D) → List (List D) → List (List D) → Rs) (t62 : Int → Int → Int → Int → Int → Int → Int → Int → List (List D) → Int → List (List D) → List (List D) → List (List D) → Int → Rs) (t71 : Int → Int → Int → Int → Int → Int → Int → Int → List (List D) → Int → List (List D) → List (List D) → List (List D) → Rs) (n1 : Int) (n2 : Int) (n3 : Int) (n4 : Int) (n5 : Int) (n6 : Int) (n7 : Int) (n8 : Int) (l9 : List (List D)) (n10 : Int) (l11 : List (List D)) (l12 : List (List D)) (l13 : List (List D)) : Rs :=
  let y1 := t11 n1 n2 n3 n4 n5 n6 n7 n8 l9 n10 l11 l12 l13
  chk (okR zr11 zo11 y1) <|
  let y2 := !(asB (resC y1 0 0))
  if y2 then
   some ([.agg [.i .i64 (0 : Int), .i .i64 (0 : Int), .i .i64 (0 : Int), .i .i64 (0 : Int), .i .i64 (0 : Int), .i .i64 (0 : Int), .i .i64 (0 : Int), .i .i64 (0 : Int), .l ([] : List (List D)), .i .i64 (0 : Int), .l ([] : List (List D)), .l ([] : List (List D)), .l ([] : List (List D))], .one (.l ([] : List (List D)))], [])
  else
   let y3 := t61 n1 n2 n3 n4 n5 n6 n7 n8 l9 n10 l11 l12 l13
   chk (okR zr61 zo61 y3) <|
   let y4 := asI (resC y3 0 4)
   let y5 := asI (resC y3 0 2)
   let y6 := (y4 == (3 : Int)) || (decide (y5 ≥ (100000 : Int)))
   if y6 then
    let y7 := asI (resC y3 0 0)
    let y8 := asI (resC y3 0 1)
    let y9 := asI (resC y3 0 6)
    let y10 := asI (resC y3 0 7)
    let y11 := asL (resC y3 0 8)
    let y12 := asI (resC y3 0 9)
    let y13 := asL (resC y3 0 10)
    let y14 := asL (resC y3 0 11)
    let y15 := asL (resC y3 0 12)
    some ([.agg [.i .i64 y7, .i .i64 y8, .i .i64 y5, .i .i64 (asI (resC y3 0 3)), .i .i64 y4, .i .i64 (asI (resC y3 0 5)), .i .i64 y9, .i .i64 y10, .l y11, .i .i64 y12, .l y13, .l y14, .l y15], .one (.l ([] : List (List D)))], [])
   else
    let y16 := asI (resC y3 0 0)
    let y17 := ([[.i .i64 y16]] : List (List D))
    let y18 := asI (resC y3 0 1)
    let y19 := decide ((w64 ((2 : Int) * (y17.length : Int))) > y18)
    if y19 then
     let y20 := w64 (y5 + (1 : Int))
     let y21 := asI (resC y3 0 6)
     let y22 := asI (resC y3 0 7)
     let y23 := asL (resC y3 0 8)
     let y24 := asI (resC y3 0 9)
     let y25 := asL (resC y3 0 11)
     let y26 := asL (resC y3 0 12)
     let y27 := t71 y16 y18 y20 y16 (2 : Int) (-1 : Int) y21 y22 y23 y24 y17 y25 y26
     chk (okR zr71 zo71 y27) <|
     some ([.agg [.i .i64 (asI (resC y27 0 0)), .i .i64 (asI (resC y27 0 1)), .i .i64 (asI (resC y27 0 2)), .i .i64 (asI (resC y27 0 3)), .i .i64 (asI (resC y27 0 4)), .i .i64 (asI (resC y27 0 5)), .i .i64 (asI (resC y27 0 6)), .i .i64 (asI (resC y27 0 7)), .l (asL (resC y27 0 8)), .i .i64 (asI (resC y27 0 9)), .l (asL (resC y27 0 10)), .l (asL (resC y27 0 11)), .l (asL (resC y27 0 12))], .one (.l (asL (resC y27 1 0)))], [])
    else
     let y28 := w64 (y5 + (1 : Int))
     let y29 := asI (resC y3 0 6)
     let y30 := asI (resC y3 0 7)
     let y31 := asI (resC y3 0 9)
     let y32 := asL (resC y3 0 8)
     let y33 := asL (resC y3 0 10)
     let y34 := asL (resC y3 0 11)
     let y35 := asL (resC y3 0 12)
     la35o3 t11 t42 t61 t62 t71 n1 n2 n3 n4 n5 n6 n7 n8 l9 n10 l11 l12 l13 y2 y6 y19 y16 y18 y28 y16 (2 : Int) (-1 : Int) y29 y30 y31 (0 : Int) (0 : Int) (0 : Int) (0 : Int) (0 : Int) (0 : Int) (0 : Int) (0 : Int) (0 : Int) y17 y32 y33 y34 y35
      (fun (n147 : Int) (b148 : Bool) (v149 : SV) (l150 : List (List D)) =>
       some ([.agg [.i .i64 y16, .i .i64 y18, .i .i64 y28, .i .i64 y16, .i .i64 (2 : Int), .i .i64 (-1 : Int), .i .i64 y29, .i .i64 y30, .l y32, .i .i64 y31, .l y17, .l y34, .l y35], .one (.l l150)], [])) KK (0 : Int) SV.undef SV.undef ([] : List (List D))
theorem te35 : ta35 tu11 tu42 tu61 tu62 tu71 = t35 := (by rw [tu11_eq, tu42_eq, tu61_eq, tu62_eq, tu71_eq] : ta35 tu11 tu42 tu61 tu62 tu71 = ta35 t11 t42 t61 t62 t71).trans (by kernel_rfl)
def tw35 (vs : List Vr) : Rs := ta35 tu11 tu42 tu61 tu62 tu71 (vI vs 0) (vI vs 1) (vI vs 2) (vI vs 3) (vI vs 4) (vI vs 5) (vI vs 6) (vI vs 7) (vL vs 8) (vI vs 9) (vL vs 10) (vL vs 11) (vL vs 12)
def tp35 (vs : List Vr) : Rs := tu35 (vI vs 0) (vI vs 1) (vI vs 2) (vI vs 3) (vI vs 4) (vI vs 5) (vI vs 6) (vI vs 7) (vL vs 8) (vI vs 9) (vL vs 10) (vL vs 11) (vL vs 12)
theorem tpw35 : tp35 = tw35 := funext fun vs => by unfold tp35 tw35; rw [tu35_eq, te35]
def th35 (xs : List DV) : Bool × List DV × List (List D) := gOf zr35 zo35 (argsT A35 tp35 xs)
theorem te46 : t46 = t46 := rfl
def tw46 (vs : List Vr) : Rs := t46 (vI vs 0) (vI vs 1) (vI vs 2)
def tp46 (vs : List Vr) : Rs := tu46 (vI vs 0) (vI vs 1) (vI vs 2)
theorem tpw46 : tp46 = tw46 := funext fun vs => by unfold tp46 tw46; rw [tu46_eq, te46]
def th46 (xs : List DV) : Bool × List DV × List (List D) := gOf zr46 zo46 (argsT A46 tp46 xs)
theorem te48 : t48 = t48 := rfl
def tw48 (vs : List Vr) : Rs := t48 (vI vs 0) (vI vs 1) (vI vs 2) (vI vs 3) (vI vs 4) (vI vs 5) (vI vs 6) (vI vs 7) (vL vs 8) (vI vs 9) (vL vs 10) (vL vs 11) (vL vs 12) (vS vs 13)
def tp48 (vs : List Vr) : Rs := tu48 (vI vs 0) (vI vs 1) (vI vs 2) (vI vs 3) (vI vs 4) (vI vs 5) (vI vs 6) (vI vs 7) (vL vs 8) (vI vs 9) (vL vs 10) (vL vs 11) (vL vs 12) (vS vs 13)
theorem tpw48 : tp48 = tw48 := funext fun vs => by unfold tp48 tw48; rw [tu48_eq, te48]
def th48 (xs : List DV) : Bool × List DV × List (List D) := gOf zr48 zo48 (argsT A48 tp48 xs)
def la47o2 (t46 : Int → Int → Int → Rs) (n26 : Int) (n27 : Int) (n28 : Int) (n29 : Int) (s30 : ByteArray) (l31 : List (List D)) (b32 : Bool) (b34 : Bool) (b35 : Bool) (l36 : List (List D)) (n37 : Int) (n41 : Int) (n42 : Int) (n43 : Int) (n44 : Int) (s45 : ByteArray) (l46 : List (List D)) (q1 : Int → Int → Bool → Bool → Int → ByteArray → Rs) (q2 : Int → Int → Bool → SV → Rs) : Nat → Int → Int → SV → SV → Rs
  | 0, _, _, _, _ => none
  | m + 1, n33, n38, v39, v40 =>
    let y1 := decide (n38 < n37)
    if y1 then
     let y2 := l36.getD n38.toNat []
     chk (decide (0 ≤ n38) && decide (n38 < l36.length) && isRow z92 y2) <|
     let y3 := asI (nthD y2 0)
     let y4 := t46 y3 n33 n41
     let y5 := asS (nthD y2 1)
     let y6 := decide ((y5.size : Int) > (1600 : Int))
     chk ((okR zr46 zo46 y4) || !(!y6)) <|
     let y7 := y6 || (!(asB (resC y4 0 0)))
     if y7 then
      q1 n33 n38 y1 y7 y3 y5
     else
      la47o2 t46 n26 n27 n28 n29 s30 l31 b32 b34 b35 l36 n37 n41 n42 n43 n44 s45 l46 q1 q2 m y3 (w64 (n38 + (1 : Int))) (.d (.b y1)) (.d (.b y7))
    else
     q2 n33 n38 y1 (keepV [64] v40)
def ta47 (t46 : Int → Int → Int → Rs) (n1 : Int) (n2 : Int) (n3 : Int) (n4 : Int) (s5 : ByteArray) (l6 : List (List D)) : Rs :=
  let y1 := t46 n1 (0 : Int) (100000 : Int)
  chk (okR zr46 zo46 y1) <|
  let y2 := t46 n2 (-1 : Int) (4 : Int)
  let y3 := !(asB (resC y1 0 0))
  chk ((okR zr46 zo46 y2) || !(!y3)) <|
  let y4 := (y3 || (!(asB (resC y2 0 0)))) || (decide ((l6.length : Int) > (60 : Int)))
  if y4 then
   some ([.one (.b false)], [])
  else
   let y5 := t46 n3 (1 : Int) (100000 : Int)
   let y6 := !((n3 == (0 : Int)) && ((n4 == (0 : Int)) && ((s5.toList == (⟨#[]⟩ : ByteArray).toList) && true)))
   chk ((okR zr46 zo46 y5) || !y6) <|
   let y7 := t46 n4 (1 : Int) n1
   let y8 := !(asB (resC y5 0 0))
   chk ((okR zr46 zo46 y7) || !(y6 && (!y8))) <|
   let y9 := y6 && ((y8 || (!(asB (resC y7 0 0)))) || (decide ((s5.size : Int) > (20000 : Int))))
   if y9 then
    some ([.one (.b false)], [])
   else
    la47o2 t46 n1 n2 n3 n4 s5 l6 false y4 y9 l6 (l6.length : Int) n1 n2 n3 n4 s5 l6
     (fun (n78 : Int) (n79 : Int) (b80 : Bool) (b81 : Bool) (n82 : Int) (s83 : ByteArray) =>
      some ([.one (.b false)], []))
     (fun (n84 : Int) (n85 : Int) (b86 : Bool) (v87 : SV) =>
      some ([.one (.b (decide ((w64 (n3 + (l6.length : Int))) ≤ (100000 : Int))))], [])) KK (if n4 > (1 : Int) then n4 else (1 : Int)) (0 : Int) SV.undef SV.undef
theorem te47 : ta47 tu46 = t47 := (by rw [tu46_eq] : ta47 tu46 = ta47 t46).trans (by kernel_rfl)
def tw47 (vs : List Vr) : Rs := ta47 tu46 (vI vs 0) (vI vs 1) (vI vs 2) (vI vs 3) (vS vs 4) (vL vs 5)
def tp47 (vs : List Vr) : Rs := tu47 (vI vs 0) (vI vs 1) (vI vs 2) (vI vs 3) (vS vs 4) (vL vs 5)
theorem tpw47 : tp47 = tw47 := funext fun vs => by unfold tp47 tw47; rw [tu47_eq, te47]
def th47 (xs : List DV) : Bool × List DV × List (List D) := gOf zr47 zo47 (argsT A47 tp47 xs)
theorem te49 : t49 = t49 := rfl
def tw49 (vs : List Vr) : Rs := t49 (vI vs 0) (vI vs 1) (vI vs 2) (vI vs 3) (vI vs 4) (vI vs 5) (vI vs 6) (vI vs 7) (vL vs 8) (vI vs 9) (vL vs 10) (vL vs 11) (vL vs 12)
def tp49 (vs : List Vr) : Rs := tu49 (vI vs 0) (vI vs 1) (vI vs 2) (vI vs 3) (vI vs 4) (vI vs 5) (vI vs 6) (vI vs 7) (vL vs 8) (vI vs 9) (vL vs 10) (vL vs 11) (vL vs 12)
theorem tpw49 : tp49 = tw49 := funext fun vs => by unfold tp49 tw49; rw [tu49_eq, te49]
def th49 (xs : List DV) : Bool × List DV × List (List D) := gOf zr49 zo49 (argsT A49 tp49 xs)
theorem te88 : t88 = t88 := rfl
def tw88 (vs : List Vr) : Rs := t88 (vL vs 0) (vI vs 1)
def tp88 (vs : List Vr) : Rs := tu88 (vL vs 0) (vI vs 1)
theorem tpw88 : tp88 = tw88 := funext fun vs => by unfold tp88 tw88; rw [tu88_eq, te88]
def th88 (xs : List DV) : Bool × List DV × List (List D) := gOf zr88 zo88 (argsT A88 tp88 xs)
def ta76 (t88 : List (List D) → Int → Rs) (l1 : List (List D)) (n2 : Int) : Rs :=
  chk (okR zr88 zo88 (t88 l1 n2)) <|
  some ([.one (.b (decide ((asI (resC (t88 l1 n2) 0 0)) ≥ (0 : Int))))], [])
theorem te76 : ta76 tu88 = t76 := (by rw [tu88_eq] : ta76 tu88 = ta76 t88).trans (by kernel_rfl)
def tw76 (vs : List Vr) : Rs := ta76 tu88 (vL vs 0) (vI vs 1)
def tp76 (vs : List Vr) : Rs := tu76 (vL vs 0) (vI vs 1)
theorem tpw76 : tp76 = tw76 := funext fun vs => by unfold tp76 tw76; rw [tu76_eq, te76]
def th76 (xs : List DV) : Bool × List DV × List (List D) := gOf zr76 zo76 (argsT A76 tp76 xs)
theorem te77 : t77 = t77 := rfl
def tw77 (vs : List Vr) : Rs := t77 (vI vs 0) (vI vs 1) (vI vs 2) (vI vs 3) (vI vs 4) (vI vs 5) (vI vs 6) (vI vs 7) (vL vs 8) (vI vs 9) (vL vs 10) (vL vs 11) (vL vs 12) (vI vs 13)
def tp77 (vs : List Vr) : Rs := tu77 (vI vs 0) (vI vs 1) (vI vs 2) (vI vs 3) (vI vs 4) (vI vs 5) (vI vs 6) (vI vs 7) (vL vs 8) (vI vs 9) (vL vs 10) (vL vs 11) (vL vs 12) (vI vs 13)
theorem tpw77 : tp77 = tw77 := funext fun vs => by unfold tp77 tw77; rw [tu77_eq, te77]
def th77 (xs : List DV) : Bool × List DV × List (List D) := gOf zr77 zo77 (argsT A77 tp77 xs)
def la50o0 (t46 : Int → Int → Int → Rs) (t76 : List (List D) → Int → Rs) (t77 : Int → Int → Int → Int → Int → Int → Int → Int → List (List D) → Int → List (List D) → List (List D) → List (List D) → Int → Rs) (n31 : Int) (n32 : Int) (n33 : Int) (n34 : Int) (n35 : Int) (n36 : Int) (n37 : Int) (n38 : Int) (l39 : List (List D)) (n40 : Int) (l41 : List (List D)) (l42 : List (List D)) (l43 : List (List D)) (b44 : Bool) (l47 : List (List D)) (n48 : Int) (q1 : Int → Int → Bool → Bool → Rs) (q2 : SV → SV → Int → Bool → SV → Rs) : Nat → SV → SV → Int → SV → SV → Rs
  | 0, _, _, _, _, _ => none
  | m + 1, v45, v46, n49, v50, v51 =>
    let y1 := decide (n49 < n48)
    if y1 then
     let y2 := l47.getD n49.toNat []
     chk (decide (0 ≤ n49) && decide (n49 < l47.length) && isRow z3 y2) <|
     let y3 := asI (nthD y2 0)
     let y4 := t46 y3 (0 : Int) (w64 (n32 - (1 : Int)))
     chk (okR zr46 zo46 y4) <|
     let y5 := w64 (n49 - (1 : Int))
     let y6 := l41.getD y5.toNat []
     let y7 := !(asB (resC y4 0 0))
     let y8 := decide (n49 > (0 : Int))
     chk ((decide (0 ≤ y5) && decide (y5 < l41.length) && isRow z3 y6) || !((!y7) && y8)) <|
     let y9 := y7 || (y8 && (decide ((asI (nthD y6 0)) ≥ y3)))
     if y9 then
      q1 n49 y3 y1 y9
     else
      la50o0 t46 t76 t77 n31 n32 n33 n34 n35 n36 n37 n38 l39 n40 l41 l42 l43 b44 l47 n48 q1 q2 m (.d (.i .i64 n49)) (.d (.i .i64 y3)) (w64 (n49 + (1 : Int))) (.d (.b y1)) (.d (.b y9))
    else
     q2 (keepV [] v45) (keepV [] v46) n49 y1 (keepV [] v51)
def ta50 (t46 : Int → Int → Int → Rs) (t76 : List (List D) → Int → Rs) (t77 : Int → Int → Int → Int → Int → Int → Int → Int → List (List D) → Int → List (List D) → List (List D) → List (List D) → Int → Rs) (n1 : Int) (n2 : Int) (n3 : Int) (n4 : Int) (n5 : Int) (n6 : Int) (n7 : Int) (n8 : Int) (l9 : List (List D)) (n10 : Int) (l11 : List (List D)) (l12 : List (List D)) (l13 : List (List D)) : Rs :=
  la50o0 t46 t76 t77 n1 n2 n3 n4 n5 n6 n7 n8 l9 n10 l11 l12 l13 false l11 (l11.length : Int)
   (fun (n82 : Int) (n83 : Int) (b84 : Bool) (b85 : Bool) =>
    some ([.one (.b false)], []))
   (fun (v86 : SV) (v87 : SV) (n88 : Int) (b89 : Bool) (v90 : SV) =>
    let y1 := ((decide (n3 ≥ (1 : Int))) && (n4 == n1)) && (n6 == (-1 : Int))
    chk ((okR zr76 zo76 (t76 l11 n1)) || !y1) <|
    let y2 := t77 n1 n2 n3 n4 n5 n6 n7 n8 l9 n10 l11 l12 l13 (l11.length : Int)
    let y3 := y1 && (asB (resC (t76 l11 n1) 0 0))
    chk ((okR zr77 zo77 y2) || !y3) <|
    some ([.one (.b ((y3 && (!(asB (resC y2 0 0)))) && ((w64 ((l12.length : Int) + (l13.length : Int))) == (0 : Int))))], [])) KK SV.undef SV.undef (0 : Int) SV.undef SV.undef
theorem te50 : ta50 tu46 tu76 tu77 = t50 := (by rw [tu46_eq, tu76_eq, tu77_eq] : ta50 tu46 tu76 tu77 = ta50 t46 t76 t77).trans (by kernel_rfl)
def tw50 (vs : List Vr) : Rs := ta50 tu46 tu76 tu77 (vI vs 0) (vI vs 1) (vI vs 2) (vI vs 3) (vI vs 4) (vI vs 5) (vI vs 6) (vI vs 7) (vL vs 8) (vI vs 9) (vL vs 10) (vL vs 11) (vL vs 12)
def tp50 (vs : List Vr) : Rs := tu50 (vI vs 0) (vI vs 1) (vI vs 2) (vI vs 3) (vI vs 4) (vI vs 5) (vI vs 6) (vI vs 7) (vL vs 8) (vI vs 9) (vL vs 10) (vL vs 11) (vL vs 12)
theorem tpw50 : tp50 = tw50 := funext fun vs => by unfold tp50 tw50; rw [tu50_eq, te50]
def th50 (xs : List DV) : Bool × List DV × List (List D) := gOf zr50 zo50 (argsT A50 tp50 xs)
def la51o1 (t49 : Int → Int → Int → Int → Int → Int → Int → Int → List (List D) → Int → List (List D) → List (List D) → List (List D) → Rs) (n32 : Int) (n33 : Int) (n34 : Int) (n35 : Int) (n36 : Int) (n37 : Int) (n38 : Int) (n39 : Int) (l40 : List (List D)) (n41 : Int) (l42 : List (List D)) (l43 : List (List D)) (l44 : List (List D)) (b45 : Bool) (b48 : Bool) (l49 : List (List D)) (n50 : Int) (q1 : Int → Int → Bool → Bool → Rs) (q2 : SV → SV → Int → Bool → SV → Rs) : Nat → SV → SV → Int → SV → SV → Rs
  | 0, _, _, _, _, _ => none
  | m + 1, v46, v47, n51, v52, v53 =>
    let y1 := decide (n51 < n50)
    if y1 then
     let y2 := l49.getD n51.toNat []
     chk (decide (0 ≤ n51) && decide (n51 < l49.length) && isRow z3 y2) <|
     let y3 := l43.getD n51.toNat []
     let y4 := asI (nthD y2 0)
     let y5 := decide (y4 < (0 : Int))
     chk ((decide (0 ≤ n51) && decide (n51 < l43.length) && isRow z3 y3) || !(!y5)) <|
     let y6 := l43.getD n51.toNat []
     let y7 := y5 || (decide ((asI (nthD y3 0)) ≤ y4))
     chk ((decide (0 ≤ n51) && decide (n51 < l43.length) && isRow z3 y6) || !(!y7)) <|
     let y8 := t49 n32 n33 n34 n35 n36 n37 n38 n39 l40 n41 l42 l43 l44
     chk ((okR zr49 zo49 y8) || !(!y7)) <|
     let y9 := y7 || (decide ((asI (nthD y6 0)) > (w64 ((asI (resC y8 0 0)) + (1 : Int)))))
     if y9 then
      q1 n51 y4 y1 y9
     else
      la51o1 t49 n32 n33 n34 n35 n36 n37 n38 n39 l40 n41 l42 l43 l44 b45 b48 l49 n50 q1 q2 m (.d (.i .i64 n51)) (.d (.i .i64 y4)) (w64 (n51 + (1 : Int))) (.d (.b y1)) (.d (.b y9))
    else
     q2 (keepV [] v46) (keepV [] v47) n51 y1 (keepV [] v53)
def ta51 (t49 : Int → Int → Int → Int → Int → Int → Int → Int → List (List D) → Int → List (List D) → List (List D) → List (List D) → Rs) (n1 : Int) (n2 : Int) (n3 : Int) (n4 : Int) (n5 : Int) (n6 : Int) (n7 : Int) (n8 : Int) (l9 : List (List D)) (n10 : Int) (l11 : List (List D)) (l12 : List (List D)) (l13 : List (List D)) : Rs :=
  let y1 := (((((decide (n3 < (1 : Int))) || (n4 != n1)) || (n6 != n1)) || (decide ((l11.length : Int) > (0 : Int)))) || ((l12.length : Int) != n2)) || ((l13.length : Int) != n2)
  if y1 then
   some ([.one (.b false)], [])
  else
   la51o1 t49 n1 n2 n3 n4 n5 n6 n7 n8 l9 n10 l11 l12 l13 false y1 l13 (l13.length : Int)
    (fun (n85 : Int) (n86 : Int) (b87 : Bool) (b88 : Bool) =>
     some ([.one (.b false)], []))
    (fun (v89 : SV) (v90 : SV) (n91 : Int) (b92 : Bool) (v93 : SV) =>
     let y2 := l13.getD n1.toNat []
     chk (decide (0 ≤ n1) && decide (n1 < l13.length) && isRow z3 y2) <|
     let y3 := t49 n1 n2 n3 n4 n5 n6 n7 n8 l9 n10 l11 l12 l13
     chk (okR zr49 zo49 y3) <|
     some ([.one (.b ((asI (nthD y2 0)) == (asI (resC y3 0 0))))], [])) KK SV.undef SV.undef (0 : Int) SV.undef SV.undef
theorem te51 : ta51 tu49 = t51 := (by rw [tu49_eq] : ta51 tu49 = ta51 t49).trans (by kernel_rfl)
def tw51 (vs : List Vr) : Rs := ta51 tu49 (vI vs 0) (vI vs 1) (vI vs 2) (vI vs 3) (vI vs 4) (vI vs 5) (vI vs 6) (vI vs 7) (vL vs 8) (vI vs 9) (vL vs 10) (vL vs 11) (vL vs 12)
def tp51 (vs : List Vr) : Rs := tu51 (vI vs 0) (vI vs 1) (vI vs 2) (vI vs 3) (vI vs 4) (vI vs 5) (vI vs 6) (vI vs 7) (vL vs 8) (vI vs 9) (vL vs 10) (vL vs 11) (vL vs 12)
theorem tpw51 : tp51 = tw51 := funext fun vs => by unfold tp51 tw51; rw [tu51_eq, te51]
def th51 (xs : List DV) : Bool × List DV × List (List D) := gOf zr51 zo51 (argsT A51 tp51 xs)
def ta13 (t46 : Int → Int → Int → Rs) (t47 : Int → Int → Int → Int → ByteArray → List (List D) → Rs) (t48 : Int → Int → Int → Int → Int → Int → Int → Int → List (List D) → Int → List (List D) → List (List D) → List (List D) → ByteArray → Rs) (t49 : Int → Int → Int → Int → Int → Int → Int → Int → List (List D) → Int → List (List D) → List (List D) → List (List D) → Rs) (t50 : Int → Int → Int → Int → Int → Int → Int → Int → List (List D) → Int → List (List D) → List (List D) → List (List D) → Rs) (t51 : Int → Int → Int → Int → Int → Int → Int → Int → List (List D) → Int → List (List D) → List (List D) → List (List D) → Rs) (n1 : Int) (n2 : Int) (n3 : Int) (n4 : Int) (n5 : Int) (n6 : Int) (n7 : Int) (n8 : Int) (l9 : List (List D)) (n10 : Int) (l11 : List (List D)) (l12 : List (List D)) (l13 : List (List D)) : Rs :=
  let y1 := t46 n2 (1 : Int) (5 : Int)
  chk (okR zr46 zo46 y1) <|
  let y2 := t46 n1 (0 : Int) (w64 (n2 - (1 : Int)))
  let y3 := !(asB (resC y1 0 0))
  chk ((okR zr46 zo46 y2) || !(!y3)) <|
  let y4 := (((y3 || (!(asB (resC y2 0 0)))) || (decide (n4 ≥ n2))) || (decide (n7 < (0 : Int)))) || ((n7 == (0 : Int)) && (n8 != (0 : Int)))
  if !y4 then
   let y5 := t48 n1 n2 n3 n4 n5 n6 n7 n8 l9 n10 l11 l12 l13 (⟨#[]⟩ : ByteArray)
   chk (okR zr48 zo48 y5) <|
   let y6 := t47 (asI (resC y5 0 0)) (asI (resC y5 0 1)) (asI (resC y5 0 2)) (asI (resC y5 0 3)) (asS (resC y5 0 4)) (asL (resC y5 0 5))
   chk ((okR zr47 zo47 y6) || !(!y4)) <|
   let y7 := t49 n1 n2 n3 n4 n5 n6 n7 n8 l9 n10 l11 l12 l13
   let y8 := y4 || (!(asB (resC y6 0 0)))
   chk ((okR zr49 zo49 y7) || !(!y8)) <|
   let y9 := t46 n10 n7 (asI (resC y7 0 0))
   chk ((okR zr46 zo46 y9) || !(!y8)) <|
   if y8 || (!(asB (resC y9 0 0))) then
    some ([.one (.b false)], [])
   else
    if n5 == (1 : Int) then
     let y10 := t46 n6 (-1 : Int) (w64 (n2 - (1 : Int)))
     chk (okR zr46 zo46 y10) <|
     some ([.one (.b (((asB (resC y10 0 0)) && (n6 != n1)) && ((w64 ((w64 ((l11.length : Int) + (l12.length : Int))) + (l13.length : Int))) == (0 : Int))))], [])
    else
     if n5 == (2 : Int) then
      let y11 := t50 n1 n2 n3 n4 n5 n6 n7 n8 l9 n10 l11 l12 l13
      chk (okR zr50 zo50 y11) <|
      some ([.one (.b (asB (resC y11 0 0)))], [])
     else
      if n5 == (3 : Int) then
       let y12 := t51 n1 n2 n3 n4 n5 n6 n7 n8 l9 n10 l11 l12 l13
       chk (okR zr51 zo51 y12) <|
       some ([.one (.b (asB (resC y12 0 0)))], [])
      else
       some ([.one (.b false)], [])
  else
   if !y4 then
    none
   else
    if !y4 then
     none
    else
     chk (y4) <|
     let y13 := t49 n1 n2 n3 n4 n5 n6 n7 n8 l9 n10 l11 l12 l13
     chk ((okR zr49 zo49 y13) || !false) <|
     chk ((okR zr46 zo46 (t46 n10 n7 (asI (resC y13 0 0)))) || !false) <|
     some ([.one (.b false)], [])
theorem te13 : ta13 tu46 tu47 tu48 tu49 tu50 tu51 = t13 := (by rw [tu46_eq, tu47_eq, tu48_eq, tu49_eq, tu50_eq, tu51_eq] : ta13 tu46 tu47 tu48 tu49 tu50 tu51 = ta13 t46 t47 t48 t49 t50 t51).trans (by kernel_rfl)
def tw13 (vs : List Vr) : Rs := ta13 tu46 tu47 tu48 tu49 tu50 tu51 (vI vs 0) (vI vs 1) (vI vs 2) (vI vs 3) (vI vs 4) (vI vs 5) (vI vs 6) (vI vs 7) (vL vs 8) (vI vs 9) (vL vs 10) (vL vs 11) (vL vs 12)
def tp13 (vs : List Vr) : Rs := tu13 (vI vs 0) (vI vs 1) (vI vs 2) (vI vs 3) (vI vs 4) (vI vs 5) (vI vs 6) (vI vs 7) (vL vs 8) (vI vs 9) (vL vs 10) (vL vs 11) (vL vs 12)
theorem tpw13 : tp13 = tw13 := funext fun vs => by unfold tp13 tw13; rw [tu13_eq, te13]
def th13 (xs : List DV) : Bool × List DV × List (List D) := gOf zr13 zo13 (argsT A13 tp13 xs)
theorem te79 : t79 = t79 := rfl
def tw79 (vs : List Vr) : Rs := t79 (vL vs 0)
def tp79 (vs : List Vr) : Rs := tu79 (vL vs 0)
theorem tpw79 : tp79 = tw79 := funext fun vs => by unfold tp79 tw79; rw [tu79_eq, te79]
def th79 (xs : List DV) : Bool × List DV × List (List D) := gOf zr79 zo79 (argsT A79 tp79 xs)
def ta63 (t79 : List (List D) → Rs) (n1 : Int) (n2 : Int) (n3 : Int) (n4 : Int) (n5 : Int) (n6 : Int) (n7 : Int) (n8 : Int) (l9 : List (List D)) (n10 : Int) (l11 : List (List D)) (l12 : List (List D)) (l13 : List (List D)) : Rs :=
  chk ((flatR 2 l9) && decide (l9.length ≤ lim)) <|
  chk (okR zr79 zo79 (t79 l11)) <|
  chk (okR zr79 zo79 (t79 l12)) <|
  chk (okR zr79 zo79 (t79 l13)) <|
  some ([.agg [.i .i64 n1, .i .i64 n2, .i .i64 n3, .i .i64 n4, .i .i64 n5, .i .i64 n6, .i .i64 n7, .i .i64 n8, .l l9, .i .i64 n10, .l (asL (resC (t79 l11) 0 0)), .l (asL (resC (t79 l12) 0 0)), .l (asL (resC (t79 l13) 0 0))]], [])
theorem te63 : ta63 tu79 = t63 := (by rw [tu79_eq] : ta63 tu79 = ta63 t79).trans (by kernel_rfl)
def tw63 (vs : List Vr) : Rs := ta63 tu79 (vI vs 0) (vI vs 1) (vI vs 2) (vI vs 3) (vI vs 4) (vI vs 5) (vI vs 6) (vI vs 7) (vL vs 8) (vI vs 9) (vL vs 10) (vL vs 11) (vL vs 12)
def tp63 (vs : List Vr) : Rs := tu63 (vI vs 0) (vI vs 1) (vI vs 2) (vI vs 3) (vI vs 4) (vI vs 5) (vI vs 6) (vI vs 7) (vL vs 8) (vI vs 9) (vL vs 10) (vL vs 11) (vL vs 12)
theorem tpw63 : tp63 = tw63 := funext fun vs => by unfold tp63 tw63; rw [tu63_eq, te63]
def th63 (xs : List DV) : Bool × List DV × List (List D) := gOf zr63 zo63 (argsT A63 tp63 xs)
def ta84 (t49 : Int → Int → Int → Int → Int → Int → Int → Int → List (List D) → Int → List (List D) → List (List D) → List (List D) → Rs) (n1 : Int) (n2 : Int) (n3 : Int) (n4 : Int) (n5 : Int) (n6 : Int) (n7 : Int) (n8 : Int) (l9 : List (List D)) (n10 : Int) (l11 : List (List D)) (l12 : List (List D)) (l13 : List (List D)) : Rs :=
  let y1 := t49 n1 n2 n3 n4 n5 n6 n7 n8 l9 n10 l11 l12 l13
  let y2 := decide ((l9.length : Int) < (60 : Int))
  chk ((okR zr49 zo49 y1) || !y2) <|
  some ([.one (.b (y2 && (decide ((asI (resC y1 0 0)) < (100000 : Int)))))], [])
theorem te84 : ta84 tu49 = t84 := (by rw [tu49_eq] : ta84 tu49 = ta84 t49).trans (by kernel_rfl)
def tw84 (vs : List Vr) : Rs := ta84 tu49 (vI vs 0) (vI vs 1) (vI vs 2) (vI vs 3) (vI vs 4) (vI vs 5) (vI vs 6) (vI vs 7) (vL vs 8) (vI vs 9) (vL vs 10) (vL vs 11) (vL vs 12)
def tp84 (vs : List Vr) : Rs := tu84 (vI vs 0) (vI vs 1) (vI vs 2) (vI vs 3) (vI vs 4) (vI vs 5) (vI vs 6) (vI vs 7) (vL vs 8) (vI vs 9) (vL vs 10) (vL vs 11) (vL vs 12)
theorem tpw84 : tp84 = tw84 := funext fun vs => by unfold tp84 tw84; rw [tu84_eq, te84]
def th84 (xs : List DV) : Bool × List DV × List (List D) := gOf zr84 zo84 (argsT A84 tp84 xs)
def ta85 (t49 : Int → Int → Int → Int → Int → Int → Int → Int → List (List D) → Int → List (List D) → List (List D) → List (List D) → Rs) (n1 : Int) (n2 : Int) (n3 : Int) (n4 : Int) (n5 : Int) (n6 : Int) (n7 : Int) (n8 : Int) (l9 : List (List D)) (n10 : Int) (l11 : List (List D)) (l12 : List (List D)) (l13 : List (List D)) : Rs :=
  let y1 := t49 n1 n2 n3 n4 n5 n6 n7 n8 l9 n10 l11 l12 l13
  chk (okR zr49 zo49 y1) <|
  chk (decide (0 ≤ n1) && decide (n1 < l13.length)) <|
  chk (decide (1 ≤ 1 ∧ (n1.toNat) < l13.length)) <|
  let y2 := stR l13 (n1.toNat) 0 [.i .i64 (asI (resC y1 0 0))]
  let y3 := t49 n1 n2 n3 n4 n5 n6 n7 n8 l9 n10 l11 l12 y2
  chk (okR zr49 zo49 y3) <|
  chk (decide (0 ≤ n1) && decide (n1 < l12.length)) <|
  chk (decide (1 ≤ 1 ∧ (n1.toNat) < l12.length)) <|
  some ([], [[.i .i64 n1, .i .i64 n2, .i .i64 n3, .i .i64 n4, .i .i64 n5, .i .i64 n6, .i .i64 n7, .i .i64 n8, .l l9, .i .i64 n10, .l l11, .l (stR l12 (n1.toNat) 0 [.i .i64 (w64 ((asI (resC y3 0 0)) + (1 : Int)))]), .l y2]])
theorem te85 : ta85 tu49 = t85 := (by rw [tu49_eq] : ta85 tu49 = ta85 t49).trans (by kernel_rfl)
def tw85 (vs : List Vr) : Rs := ta85 tu49 (vI vs 0) (vI vs 1) (vI vs 2) (vI vs 3) (vI vs 4) (vI vs 5) (vI vs 6) (vI vs 7) (vL vs 8) (vI vs 9) (vL vs 10) (vL vs 11) (vL vs 12)
def tp85 (vs : List Vr) : Rs := tu85 (vI vs 0) (vI vs 1) (vI vs 2) (vI vs 3) (vI vs 4) (vI vs 5) (vI vs 6) (vI vs 7) (vL vs 8) (vI vs 9) (vL vs 10) (vL vs 11) (vL vs 12)
theorem tpw85 : tp85 = tw85 := funext fun vs => by unfold tp85 tw85; rw [tu85_eq, te85]
def th85 (xs : List DV) : Bool × List DV × List (List D) := gOf zr85 zo85 (argsT A85 tp85 xs)
theorem te64 : t64 = t64 := rfl
def tw64 (vs : List Vr) : Rs := t64 (vI vs 0) (vI vs 1) (vI vs 2) (vI vs 3) (vI vs 4) (vI vs 5) (vI vs 6) (vI vs 7) (vL vs 8) (vI vs 9) (vL vs 10) (vL vs 11) (vL vs 12) (vI vs 13)
def tp64 (vs : List Vr) : Rs := tu64 (vI vs 0) (vI vs 1) (vI vs 2) (vI vs 3) (vI vs 4) (vI vs 5) (vI vs 6) (vI vs 7) (vL vs 8) (vI vs 9) (vL vs 10) (vL vs 11) (vL vs 12) (vI vs 13)
theorem tpw64 : tp64 = tw64 := funext fun vs => by unfold tp64 tw64; rw [tu64_eq, te64]
def th64 (xs : List DV) : Bool × List DV × List (List D) := gOf zr64 zo64 (argsT A64 tp64 xs)
def la86o100002 (t49 : Int → Int → Int → Int → Int → Int → Int → Int → List (List D) → Int → List (List D) → List (List D) → List (List D) → Rs) (t64 : Int → Int → Int → Int → Int → Int → Int → Int → List (List D) → Int → List (List D) → List (List D) → List (List D) → Int → Rs) (t77 : Int → Int → Int → Int → Int → Int → Int → Int → List (List D) → Int → List (List D) → List (List D) → List (List D) → Int → Rs) (n146 : Int) (b149 : Bool) (n150 : Int) (n155 : Int) (n156 : Int) (n157 : Int) (n158 : Int) (n159 : Int) (n160 : Int) (n161 : Int) (n162 : Int) (n163 : Int) (l164 : List (List D)) (l165 : List (List D)) (l166 : List (List D)) (l167 : List (List D)) (q1 : Int → SV → Int → Bool → SV → SV → Rs) : Nat → Int → SV → Int → SV → SV → SV → Rs
  | 0, _, _, _, _, _, _ => none
  | m + 1, n147, v148, n151, v152, v153, v154 =>
    let y1 := decide (n151 < n150)
    if y1 then
     chk (decide (0 ≤ n151) && decide (n151 < l167.length)) <|
     let y2 := l167.getD (n151.toNat) []
     chk (decide (1 ≤ y2.length) && isF z3 0 y2) <|
     let k1 := fun (n168 : Int) =>
      let y3 := asI (nthD y2 0)
      let y4 := decide (y3 ≥ n146)
      la86o100002 t49 t64 t77 n146 b149 n150 n155 n156 n157 n158 n159 n160 n161 n162 n163 l164 l165 l166 l167 q1 m n168 (.d (.i .i64 y3)) (w64 (n151 + (1 : Int))) (.d (.b y1)) (.d (.b y4)) (keepV [0, 9, 11, 12, 13] v154)
     let y5 := asI (nthD y2 0)
     let y6 := decide (y5 ≥ n146)
     if y6 then
      k1 (w64 (n147 + (1 : Int)))
     else
      k1 n147
    else
     q1 n147 (keepV [0, 9, 11, 12, 13] v148) n151 y1 (keepV [0, 9, 11, 12, 13] v153) (keepV [0, 9, 11, 12, 13] v154)
def la86o0 (t49 : Int → Int → Int → Int → Int → Int → Int → Int → List (List D) → Int → List (List D) → List (List D) → List (List D) → Rs) (t64 : Int → Int → Int → Int → Int → Int → Int → Int → List (List D) → Int → List (List D) → List (List D) → List (List D) → Int → Rs) (t77 : Int → Int → Int → Int → Int → Int → Int → Int → List (List D) → Int → List (List D) → List (List D) → List (List D) → Int → Rs) (n110 : Int) (n111 : Int) (n112 : Int) (n113 : Int) (n114 : Int) (n115 : Int) (n116 : Int) (n117 : Int) (n118 : Int) (l119 : List (List D)) (l120 : List (List D)) (l121 : List (List D)) (l122 : List (List D)) (q1 : Int → Int → SV → Bool → Int → Int → Bool → SV → Bool → Rs) (q2 : Int → SV → SV → Bool → SV → SV → SV → SV → SV → SV → Rs) : Nat → Int → SV → SV → SV → SV → SV → SV → SV → SV → SV → Rs
  | 0, _, _, _, _, _, _, _, _, _, _ => none
  | m + 1, n100, v101, v102, v103, v104, v105, v106, v107, v108, v109 =>
    let y1 := decide (n100 > n118)
    if y1 then
     let y2 := (l122.length : Int)
     la86o100002 t49 t64 t77 n100 y1 y2 n110 n111 n112 n113 n114 n115 n116 n117 n118 l119 l120 l121 l122
      (fun (n197 : Int) (v198 : SV) (n199 : Int) (b200 : Bool) (v201 : SV) (v202 : SV) =>
       let y3 := t64 n110 n111 n112 n113 n114 n115 n116 n117 l119 n118 l120 l121 l122 n100
       chk (okR zr64 zo64 y3) <|
       let y4 := t77 n110 n111 n112 n113 n114 n115 n116 n117 l119 n118 l120 l121 l122 n197
       let y5 := (asI (resC y3 0 0)) == n112
       chk ((okR zr77 zo77 y4) || !y5) <|
       let y6 := y5 && (asB (resC y4 0 0))
       if y6 then
        q1 n100 n197 v198 y1 y2 n199 b200 v201 y6
       else
        la86o0 t49 t64 t77 n110 n111 n112 n113 n114 n115 n116 n117 n118 l119 l120 l121 l122 q1 q2 m (w64 (n100 - (1 : Int))) (.d (.i .i64 n197)) (keepV [0, 9, 11, 12, 13] v198) (.d (.b y1)) (SV.own 13) (.d (.i .i64 y2)) (.d (.i .i64 n199)) (.d (.b b200)) (keepV [0, 9, 11, 12, 13] v201) (.d (.b y6))) KK (0 : Int) v102 (0 : Int) v107 v108 v109
    else
     q2 n100 (keepV [0, 9, 11, 12, 13] v101) (keepV [0, 9, 11, 12, 13] v102) y1 (keepV [0, 9, 11, 12, 13] v104) (keepV [0, 9, 11, 12, 13] v105) (keepV [0, 9, 11, 12, 13] v106) (keepV [0, 9, 11, 12, 13] v107) (keepV [0, 9, 11, 12, 13] v108) (keepV [0, 9, 11, 12, 13] v109)
def ta86 (t49 : Int → Int → Int → Int → Int → Int → Int → Int → List (List D) → Int → List (List D) → List (List D) → List (List D) → Rs) (t64 : Int → Int → Int → Int → Int → Int → Int → Int → List (List D) → Int → List (List D) → List (List D) → List (List D) → Int → Rs) (t77 : Int → Int → Int → Int → Int → Int → Int → Int → List (List D) → Int → List (List D) → List (List D) → List (List D) → Int → Rs) (n1 : Int) (n2 : Int) (n3 : Int) (n4 : Int) (n5 : Int) (n6 : Int) (n7 : Int) (n8 : Int) (l9 : List (List D)) (n10 : Int) (l11 : List (List D)) (l12 : List (List D)) (l13 : List (List D)) : Rs :=
  let y1 := t49 n1 n2 n3 n4 n5 n6 n7 n8 l9 n10 l11 l12 l13
  chk (okR zr49 zo49 y1) <|
  la86o0 t49 t64 t77 n1 n2 n3 n4 n5 n6 n7 n8 n10 l9 l11 l12 l13
   (fun (n245 : Int) (n246 : Int) (v247 : SV) (b248 : Bool) (n249 : Int) (n250 : Int) (b251 : Bool) (v252 : SV) (b253 : Bool) =>
    some ([], [[.i .i64 n1, .i .i64 n2, .i .i64 n3, .i .i64 n4, .i .i64 n5, .i .i64 n6, .i .i64 n7, .i .i64 n8, .l l9, .i .i64 n245, .l l11, .l l12, .l l13]]))
   (fun (n254 : Int) (v255 : SV) (v256 : SV) (b257 : Bool) (v258 : SV) (v259 : SV) (v260 : SV) (v261 : SV) (v262 : SV) (v263 : SV) =>
    some ([], [[.i .i64 n1, .i .i64 n2, .i .i64 n3, .i .i64 n4, .i .i64 n5, .i .i64 n6, .i .i64 n7, .i .i64 n8, .l l9, .i .i64 n10, .l l11, .l l12, .l l13]])) KK (asI (resC y1 0 0)) SV.undef SV.undef SV.undef SV.undef SV.undef SV.undef SV.undef SV.undef SV.undef
theorem te86 : ta86 tu49 tu64 tu77 = t86 := (by rw [tu49_eq, tu64_eq, tu77_eq] : ta86 tu49 tu64 tu77 = ta86 t49 t64 t77).trans (by kernel_rfl)
def tw86 (vs : List Vr) : Rs := ta86 tu49 tu64 tu77 (vI vs 0) (vI vs 1) (vI vs 2) (vI vs 3) (vI vs 4) (vI vs 5) (vI vs 6) (vI vs 7) (vL vs 8) (vI vs 9) (vL vs 10) (vL vs 11) (vL vs 12)
def tp86 (vs : List Vr) : Rs := tu86 (vI vs 0) (vI vs 1) (vI vs 2) (vI vs 3) (vI vs 4) (vI vs 5) (vI vs 6) (vI vs 7) (vL vs 8) (vI vs 9) (vL vs 10) (vL vs 11) (vL vs 12)
theorem tpw86 : tp86 = tw86 := funext fun vs => by unfold tp86 tw86; rw [tu86_eq, te86]
def th86 (xs : List DV) : Bool × List DV × List (List D) := gOf zr86 zo86 (argsT A86 tp86 xs)
theorem te81 : t81 = t81 := rfl
def tw81 (vs : List Vr) : Rs := t81 (vI vs 0) (vI vs 1) (vI vs 2) (vI vs 3) (vI vs 4) (vI vs 5) (vI vs 6) (vI vs 7) (vL vs 8) (vI vs 9) (vL vs 10) (vL vs 11) (vL vs 12)
def tp81 (vs : List Vr) : Rs := tu81 (vI vs 0) (vI vs 1) (vI vs 2) (vI vs 3) (vI vs 4) (vI vs 5) (vI vs 6) (vI vs 7) (vL vs 8) (vI vs 9) (vL vs 10) (vL vs 11) (vL vs 12)
theorem tpw81 : tp81 = tw81 := funext fun vs => by unfold tp81 tw81; rw [tu81_eq, te81]
def th81 (xs : List DV) : Bool × List DV × List (List D) := gOf zr81 zo81 (argsT A81 tp81 xs)
def ta82 (t64 : Int → Int → Int → Int → Int → Int → Int → Int → List (List D) → Int → List (List D) → List (List D) → List (List D) → Int → Rs) (n1 : Int) (n2 : Int) (n3 : Int) (n4 : Int) (n5 : Int) (n6 : Int) (n7 : Int) (n8 : Int) (l9 : List (List D)) (n10 : Int) (l11 : List (List D)) (l12 : List (List D)) (l13 : List (List D)) (n14 : Int) : Rs :=
  let y1 := l12.getD n14.toNat []
  chk (decide (0 ≤ n14) && decide (n14 < l12.length) && isRow z3 y1) <|
  let y2 := asI (nthD y1 0)
  if decide (y2 ≤ n7) then
   some ([.agg [.i .i64 (5 : Int), .i .i64 n1, .i .i64 n14, .i .i64 n3, .i .i64 n7, .i .i64 n8, .i .i64 (0 : Int), .b false, .l ([] : List (List D)), .s (⟨#[]⟩ : ByteArray)]], [])
  else
   let y3 := t64 n1 n2 n3 n4 n5 n6 n7 n8 l9 n10 l11 l12 l13 (w64 (y2 - (1 : Int)))
   chk (okR zr64 zo64 y3) <|
   let y4 := w64 ((w64 (y2 - (1 : Int))) - n7)
   chk (decide (0 ≤ y4 ∧ y4 ≤ l9.length ∧ (l9.getD 0 z92).length = z92.length)) <|
   let y5 := l9.drop y4.toNat
   let y6 := (y5.length : Int)
   let y7 := if y6 < (4 : Int) then y6 else (4 : Int)
   chk (decide (0 ≤ (0 : Int) ∧ (0 : Int) ≤ y7 ∧ y7 ≤ y5.length ∧ (y5.getD 0 z92).length = z92.length)) <|
   let y8 := (y5.take y7.toNat).drop (0 : Int).toNat
   chk ((flatR 2 y8) && decide (y8.length ≤ lim)) <|
   some ([.agg [.i .i64 (3 : Int), .i .i64 n1, .i .i64 n14, .i .i64 n3, .i .i64 (w64 (y2 - (1 : Int))), .i .i64 (asI (resC y3 0 0)), .i .i64 n10, .b false, .l y8, .s (⟨#[]⟩ : ByteArray)]], [])
theorem te82 : ta82 tu64 = t82 := (by rw [tu64_eq] : ta82 tu64 = ta82 t64).trans (by kernel_rfl)
def tw82 (vs : List Vr) : Rs := ta82 tu64 (vI vs 0) (vI vs 1) (vI vs 2) (vI vs 3) (vI vs 4) (vI vs 5) (vI vs 6) (vI vs 7) (vL vs 8) (vI vs 9) (vL vs 10) (vL vs 11) (vL vs 12) (vI vs 13)
def tp82 (vs : List Vr) : Rs := tu82 (vI vs 0) (vI vs 1) (vI vs 2) (vI vs 3) (vI vs 4) (vI vs 5) (vI vs 6) (vI vs 7) (vL vs 8) (vI vs 9) (vL vs 10) (vL vs 11) (vL vs 12) (vI vs 13)
theorem tpw82 : tp82 = tw82 := funext fun vs => by unfold tp82 tw82; rw [tu82_eq, te82]
def th82 (xs : List DV) : Bool × List DV × List (List D) := gOf zr82 zo82 (argsT A82 tp82 xs)
def la66o0 (t81 : Int → Int → Int → Int → Int → Int → Int → Int → List (List D) → Int → List (List D) → List (List D) → List (List D) → Rs) (t82 : Int → Int → Int → Int → Int → Int → Int → Int → List (List D) → Int → List (List D) → List (List D) → List (List D) → Int → Rs) (n31 : Int) (n32 : Int) (n33 : Int) (n34 : Int) (n35 : Int) (n36 : Int) (n37 : Int) (n38 : Int) (l39 : List (List D)) (n40 : Int) (l41 : List (List D)) (l42 : List (List D)) (l43 : List (List D)) (n45 : Int) (l49 : List (List D)) (q1 : SV → Int → Bool → List (List D) → Rs) : Nat → SV → Int → SV → List (List D) → Rs
  | 0, _, _, _, _ => none
  | m + 1, v44, n46, v47, l48 =>
    let y1 := decide (n46 < n45)
    if y1 then
     chk (decide (0 ≤ n46) && decide (n46 < l49.length)) <|
     let y2 := l49.getD (n46.toNat) []
     chk (decide (1 ≤ y2.length) && isF z3 0 y2) <|
     let y3 := asI (nthD y2 0)
     let y4 := t82 n31 n32 n33 n34 n35 n36 n37 n38 l39 n40 l41 l42 l43 y3
     chk (okR zr82 zo82 y4) <|
     let y5 := ([[.i .i64 (asI (resC y4 0 0)), .i .i64 (asI (resC y4 0 1)), .i .i64 (asI (resC y4 0 2)), .i .i64 (asI (resC y4 0 3)), .i .i64 (asI (resC y4 0 4)), .i .i64 (asI (resC y4 0 5)), .i .i64 (asI (resC y4 0 6)), .b (asB (resC y4 0 7)), .l (asL (resC y4 0 8)), .s (asS (resC y4 0 9))]] : List (List D))
     chk (true && decide (l48.length + y5.length ≤ lim)) <|
     la66o0 t81 t82 n31 n32 n33 n34 n35 n36 n37 n38 l39 n40 l41 l42 l43 n45 l49 q1 m (.d (.i .i64 y3)) (w64 (n46 + (1 : Int))) (.d (.b y1)) (l48 ++ y5)
    else
     q1 (keepV [384, 512] v44) n46 y1 l48
def ta66 (t81 : Int → Int → Int → Int → Int → Int → Int → Int → List (List D) → Int → List (List D) → List (List D) → List (List D) → Rs) (t82 : Int → Int → Int → Int → Int → Int → Int → Int → List (List D) → Int → List (List D) → List (List D) → List (List D) → Int → Rs) (n1 : Int) (n2 : Int) (n3 : Int) (n4 : Int) (n5 : Int) (n6 : Int) (n7 : Int) (n8 : Int) (l9 : List (List D)) (n10 : Int) (l11 : List (List D)) (l12 : List (List D)) (l13 : List (List D)) : Rs :=
  let y1 := t81 n1 n2 n3 n4 n5 n6 n7 n8 l9 n10 l11 l12 l13
  chk (okR zr81 zo81 y1) <|
  let y2 := asL (resC y1 0 0)
  la66o0 t81 t82 n1 n2 n3 n4 n5 n6 n7 n8 l9 n10 l11 l12 l13 (y2.length : Int) y2
   (fun (v73 : SV) (n74 : Int) (b75 : Bool) (l76 : List (List D)) =>
    some ([.one (.l l76)], [])) KK SV.undef (0 : Int) SV.undef ([] : List (List D))
theorem te66 : ta66 tu81 tu82 = t66 := (by rw [tu81_eq, tu82_eq] : ta66 tu81 tu82 = ta66 t81 t82).trans (by kernel_rfl)
def tw66 (vs : List Vr) : Rs := ta66 tu81 tu82 (vI vs 0) (vI vs 1) (vI vs 2) (vI vs 3) (vI vs 4) (vI vs 5) (vI vs 6) (vI vs 7) (vL vs 8) (vI vs 9) (vL vs 10) (vL vs 11) (vL vs 12)
def tp66 (vs : List Vr) : Rs := tu66 (vI vs 0) (vI vs 1) (vI vs 2) (vI vs 3) (vI vs 4) (vI vs 5) (vI vs 6) (vI vs 7) (vL vs 8) (vI vs 9) (vL vs 10) (vL vs 11) (vL vs 12)
theorem tpw66 : tp66 = tw66 := funext fun vs => by unfold tp66 tw66; rw [tu66_eq, te66]
def th66 (xs : List DV) : Bool × List DV × List (List D) := gOf zr66 zo66 (argsT A66 tp66 xs)
def la87o0 (t49 : Int → Int → Int → Int → Int → Int → Int → Int → List (List D) → Int → List (List D) → List (List D) → List (List D) → Rs) (t66 : Int → Int → Int → Int → Int → Int → Int → Int → List (List D) → Int → List (List D) → List (List D) → List (List D) → Rs) (t84 : Int → Int → Int → Int → Int → Int → Int → Int → List (List D) → Int → List (List D) → List (List D) → List (List D) → Rs) (t85 : Int → Int → Int → Int → Int → Int → Int → Int → List (List D) → Int → List (List D) → List (List D) → List (List D) → Rs) (t86 : Int → Int → Int → Int → Int → Int → Int → Int → List (List D) → Int → List (List D) → List (List D) → List (List D) → Rs) (n32 : Int) (n35 : Int) (n36 : Int) (n37 : Int) (n38 : Int) (n39 : Int) (n40 : Int) (n41 : Int) (n42 : Int) (n43 : Int) (l44 : List (List D)) (l45 : List (List D)) (l46 : List (List D)) (l47 : List (List D)) (l49 : List (List D)) (q1 : SV → Int → Bool → List (List D) → Rs) : Nat → SV → Int → SV → List (List D) → Rs
  | 0, _, _, _, _ => none
  | m + 1, v31, n33, v34, l48 =>
    let y1 := decide (n33 < n32)
    if y1 then
     let y2 := t49 n35 n36 n37 n38 n39 n40 n41 n42 l44 n43 ([] : List (List D)) l48 l49
     chk (okR zr49 zo49 y2) <|
     chk (decide (0 ≤ n33) && decide (n33 < l48.length)) <|
     chk (decide (1 ≤ 1 ∧ (n33.toNat) < l48.length)) <|
     la87o0 t49 t66 t84 t85 t86 n32 n35 n36 n37 n38 n39 n40 n41 n42 n43 l44 l45 l46 l47 l49 q1 m (.d (.i .i64 n33)) (w64 (n33 + (1 : Int))) (.d (.b y1)) (stR l48 (n33.toNat) 0 [.i .i64 (w64 ((asI (resC y2 0 0)) + (1 : Int)))])
    else
     q1 (keepV [0, 9, 11, 12, 13, 1408, 1920] v31) n33 y1 l48
def ta87 (t49 : Int → Int → Int → Int → Int → Int → Int → Int → List (List D) → Int → List (List D) → List (List D) → List (List D) → Rs) (t66 : Int → Int → Int → Int → Int → Int → Int → Int → List (List D) → Int → List (List D) → List (List D) → List (List D) → Rs) (t84 : Int → Int → Int → Int → Int → Int → Int → Int → List (List D) → Int → List (List D) → List (List D) → List (List D) → Rs) (t85 : Int → Int → Int → Int → Int → Int → Int → Int → List (List D) → Int → List (List D) → List (List D) → List (List D) → Rs) (t86 : Int → Int → Int → Int → Int → Int → Int → Int → List (List D) → Int → List (List D) → List (List D) → List (List D) → Rs) (n1 : Int) (n2 : Int) (n3 : Int) (n4 : Int) (n5 : Int) (n6 : Int) (n7 : Int) (n8 : Int) (l9 : List (List D)) (n10 : Int) (l11 : List (List D)) (l12 : List (List D)) (l13 : List (List D)) : Rs :=
  chk (decide (0 ≤ n2 ∧ n2 ≤ lim ∧ n2 = n2)) <|
  chk (decide (0 ≤ n2 ∧ n2 ≤ lim ∧ n2 = n2)) <|
  let y1 := List.replicate n2.toNat z3
  let y2 := List.replicate n2.toNat z3
  la87o0 t49 t66 t84 t85 t86 (y1.length : Int) n1 n2 n3 n4 (3 : Int) n1 n7 n8 n10 l9 l11 l12 l13 y2
   (fun (v73 : SV) (n74 : Int) (b75 : Bool) (l76 : List (List D)) =>
    let y3 := t84 n1 n2 n3 n4 (3 : Int) n1 n7 n8 l9 n10 ([] : List (List D)) l76 y2
    chk (okR zr84 zo84 y3) <|
    if asB (resC y3 0 0) then
     let y4 := ([[.i .i64 n3, .s (⟨#[]⟩ : ByteArray)]] : List (List D))
     chk ((flatR 2 y4) && decide (l9.length + y4.length ≤ lim)) <|
     let y5 := t85 n1 n2 n3 n4 (3 : Int) n1 n7 n8 (l9 ++ y4) n10 ([] : List (List D)) l76 y2
     chk (okR zr85 zo85 y5) <|
     let y6 := t86 (asI (outC y5 0 0)) (asI (outC y5 0 1)) (asI (outC y5 0 2)) (asI (outC y5 0 3)) (asI (outC y5 0 4)) (asI (outC y5 0 5)) (asI (outC y5 0 6)) (asI (outC y5 0 7)) (asL (outC y5 0 8)) (asI (outC y5 0 9)) (asL (outC y5 0 10)) (asL (outC y5 0 11)) (asL (outC y5 0 12))
     chk (okR zr86 zo86 y6) <|
     let y7 := asI (outC y6 0 0)
     let y8 := asI (outC y6 0 1)
     let y9 := asI (outC y6 0 2)
     let y10 := asI (outC y6 0 3)
     let y11 := asI (outC y6 0 4)
     let y12 := asI (outC y6 0 5)
     let y13 := asI (outC y6 0 6)
     let y14 := asI (outC y6 0 7)
     let y15 := asL (outC y6 0 8)
     let y16 := asI (outC y6 0 9)
     let y17 := asL (outC y6 0 10)
     let y18 := asL (outC y6 0 11)
     let y19 := asL (outC y6 0 12)
     let y20 := t66 y7 y8 y9 y10 y11 y12 y13 y14 y15 y16 y17 y18 y19
     chk (okR zr66 zo66 y20) <|
     some ([.one (.l (asL (resC y20 0 0)))], [[.i .i64 y7, .i .i64 y8, .i .i64 y9, .i .i64 y10, .i .i64 y11, .i .i64 y12, .i .i64 y13, .i .i64 y14, .l y15, .i .i64 y16, .l y17, .l y18, .l y19]])
    else
     let y21 := t85 n1 n2 n3 n4 (3 : Int) n1 n7 n8 l9 n10 ([] : List (List D)) l76 y2
     chk (okR zr85 zo85 y21) <|
     let y22 := t86 (asI (outC y21 0 0)) (asI (outC y21 0 1)) (asI (outC y21 0 2)) (asI (outC y21 0 3)) (asI (outC y21 0 4)) (asI (outC y21 0 5)) (asI (outC y21 0 6)) (asI (outC y21 0 7)) (asL (outC y21 0 8)) (asI (outC y21 0 9)) (asL (outC y21 0 10)) (asL (outC y21 0 11)) (asL (outC y21 0 12))
     chk (okR zr86 zo86 y22) <|
     let y23 := asI (outC y22 0 0)
     let y24 := asI (outC y22 0 1)
     let y25 := asI (outC y22 0 2)
     let y26 := asI (outC y22 0 3)
     let y27 := asI (outC y22 0 4)
     let y28 := asI (outC y22 0 5)
     let y29 := asI (outC y22 0 6)
     let y30 := asI (outC y22 0 7)
     let y31 := asL (outC y22 0 8)
     let y32 := asI (outC y22 0 9)
     let y33 := asL (outC y22 0 10)
     let y34 := asL (outC y22 0 11)
     let y35 := asL (outC y22 0 12)
     let y36 := t66 y23 y24 y25 y26 y27 y28 y29 y30 y31 y32 y33 y34 y35
     chk (okR zr66 zo66 y36) <|
     some ([.one (.l (asL (resC y36 0 0)))], [[.i .i64 y23, .i .i64 y24, .i .i64 y25, .i .i64 y26, .i .i64 y27, .i .i64 y28, .i .i64 y29, .i .i64 y30, .l y31, .i .i64 y32, .l y33, .l y34, .l y35]])) KK SV.undef (0 : Int) SV.undef y1
theorem te87 : ta87 tu49 tu66 tu84 tu85 tu86 = t87 := (by rw [tu49_eq, tu66_eq, tu84_eq, tu85_eq, tu86_eq] : ta87 tu49 tu66 tu84 tu85 tu86 = ta87 t49 t66 t84 t85 t86).trans (by kernel_rfl)
def tw87 (vs : List Vr) : Rs := ta87 tu49 tu66 tu84 tu85 tu86 (vI vs 0) (vI vs 1) (vI vs 2) (vI vs 3) (vI vs 4) (vI vs 5) (vI vs 6) (vI vs 7) (vL vs 8) (vI vs 9) (vL vs 10) (vL vs 11) (vL vs 12)
def tp87 (vs : List Vr) : Rs := tu87 (vI vs 0) (vI vs 1) (vI vs 2) (vI vs 3) (vI vs 4) (vI vs 5) (vI vs 6) (vI vs 7) (vL vs 8) (vI vs 9) (vL vs 10) (vL vs 11) (vL vs 12)
theorem tpw87 : tp87 = tw87 := funext fun vs => by unfold tp87 tw87; rw [tu87_eq, te87]
def th87 (xs : List DV) : Bool × List DV × List (List D) := gOf zr87 zo87 (argsT A87 tp87 xs)
def la72o2 (t49 : Int → Int → Int → Int → Int → Int → Int → Int → List (List D) → Int → List (List D) → List (List D) → List (List D) → Rs) (t64 : Int → Int → Int → Int → Int → Int → Int → Int → List (List D) → Int → List (List D) → List (List D) → List (List D) → Int → Rs) (t77 : Int → Int → Int → Int → Int → Int → Int → Int → List (List D) → Int → List (List D) → List (List D) → List (List D) → Int → Rs) (t81 : Int → Int → Int → Int → Int → Int → Int → Int → List (List D) → Int → List (List D) → List (List D) → List (List D) → Rs) (t87 : Int → Int → Int → Int → Int → Int → Int → Int → List (List D) → Int → List (List D) → List (List D) → List (List D) → Rs) (b35 : Bool) (b36 : Bool) (n37 : Int) (n40 : Int) (n41 : Int) (n42 : Int) (n43 : Int) (n44 : Int) (n45 : Int) (n46 : Int) (n47 : Int) (n48 : Int) (l49 : List (List D)) (l50 : List (List D)) (l51 : List (List D)) (l52 : List (List D)) (l53 : List (List D)) (l55 : List (List D)) (q1 : SV → Int → Bool → List (List D) → Rs) : Nat → SV → Int → SV → List (List D) → Rs
  | 0, _, _, _, _ => none
  | m + 1, v34, n38, v39, l54 =>
    let y1 := decide (n38 < n37)
    if y1 then
     chk (decide (0 ≤ n38) && decide (n38 < l55.length)) <|
     let y2 := l55.getD (n38.toNat) []
     chk (decide (1 ≤ y2.length) && isF z3 0 y2) <|
     let y3 := t49 n40 n41 n42 n43 n44 n45 n46 n47 l49 n48 l53 l51 l52
     chk (okR zr49 zo49 y3) <|
     let y4 := t49 n40 n41 n42 n43 n44 n45 n46 n47 l49 n48 l53 l51 l52
     chk (okR zr49 zo49 y4) <|
     let y5 := t64 n40 n41 n42 n43 n44 n45 n46 n47 l49 n48 l53 l51 l52 (asI (resC y4 0 0))
     chk (okR zr64 zo64 y5) <|
     let y6 := asI (nthD y2 0)
     let y7 := ([[.i .i64 (1 : Int), .i .i64 n40, .i .i64 y6, .i .i64 n42, .i .i64 (asI (resC y3 0 0)), .i .i64 (asI (resC y5 0 0)), .i .i64 (0 : Int), .b false, .l ([] : List (List D)), .s (⟨#[]⟩ : ByteArray)]] : List (List D))
     chk (true && decide (l54.length + y7.length ≤ lim)) <|
     la72o2 t49 t64 t77 t81 t87 b35 b36 n37 n40 n41 n42 n43 n44 n45 n46 n47 n48 l49 l50 l51 l52 l53 l55 q1 m (.d (.i .i64 y6)) (w64 (n38 + (1 : Int))) (.d (.b y1)) (l54 ++ y7)
    else
     q1 (keepV [0, 9, 11, 12, 13, 2752, 3200, 3328] v34) n38 y1 l54
def ta72 (t49 : Int → Int → Int → Int → Int → Int → Int → Int → List (List D) → Int → List (List D) → List (List D) → List (List D) → Rs) (t64 : Int → Int → Int → Int → Int → Int → Int → Int → List (List D) → Int → List (List D) → List (List D) → List (List D) → Int → Rs) (t77 : Int → Int → Int → Int → Int → Int → Int → Int → List (List D) → Int → List (List D) → List (List D) → List (List D) → Int → Rs) (t81 : Int → Int → Int → Int → Int → Int → Int → Int → List (List D) → Int → List (List D) → List (List D) → List (List D) → Rs) (t87 : Int → Int → Int → Int → Int → Int → Int → Int → List (List D) → Int → List (List D) → List (List D) → List (List D) → Rs) (n1 : Int) (n2 : Int) (n3 : Int) (n4 : Int) (n5 : Int) (n6 : Int) (n7 : Int) (n8 : Int) (l9 : List (List D)) (n10 : Int) (l11 : List (List D)) (l12 : List (List D)) (l13 : List (List D)) : Rs :=
  let y1 := (n5 == (3 : Int)) || (n3 == (100000 : Int))
  if y1 then
   some ([.one (.l ([] : List (List D)))], [[.i .i64 n1, .i .i64 n2, .i .i64 n3, .i .i64 n4, .i .i64 n5, .i .i64 n6, .i .i64 n7, .i .i64 n8, .l l9, .i .i64 n10, .l l11, .l l12, .l l13]])
  else
   let y2 := w64 (n3 + (1 : Int))
   let y3 := ([[.i .i64 n1]] : List (List D))
   let y4 := t77 n1 n2 y2 n1 (2 : Int) (-1 : Int) n7 n8 l9 n10 y3 l12 l13 (1 : Int)
   chk (okR zr77 zo77 y4) <|
   let y5 := asB (resC y4 0 0)
   if y5 then
    let y6 := t87 n1 n2 y2 n1 (2 : Int) (-1 : Int) n7 n8 l9 n10 y3 l12 l13
    chk (okR zr87 zo87 y6) <|
    some ([.one (.l (asL (resC y6 0 0)))], [[.i .i64 (asI (outC y6 0 0)), .i .i64 (asI (outC y6 0 1)), .i .i64 (asI (outC y6 0 2)), .i .i64 (asI (outC y6 0 3)), .i .i64 (asI (outC y6 0 4)), .i .i64 (asI (outC y6 0 5)), .i .i64 (asI (outC y6 0 6)), .i .i64 (asI (outC y6 0 7)), .l (asL (outC y6 0 8)), .i .i64 (asI (outC y6 0 9)), .l (asL (outC y6 0 10)), .l (asL (outC y6 0 11)), .l (asL (outC y6 0 12))]])
   else
    let y7 := t81 n1 n2 y2 n1 (2 : Int) (-1 : Int) n7 n8 l9 n10 y3 l12 l13
    chk (okR zr81 zo81 y7) <|
    let y8 := asL (resC y7 0 0)
    la72o2 t49 t64 t77 t81 t87 y1 y5 (y8.length : Int) n1 n2 y2 n1 (2 : Int) (-1 : Int) n7 n8 n10 l9 l11 l12 l13 y3 y8
     (fun (v82 : SV) (n83 : Int) (b84 : Bool) (l85 : List (List D)) =>
      some ([.one (.l l85)], [[.i .i64 n1, .i .i64 n2, .i .i64 y2, .i .i64 n1, .i .i64 (2 : Int), .i .i64 (-1 : Int), .i .i64 n7, .i .i64 n8, .l l9, .i .i64 n10, .l y3, .l l12, .l l13]])) KK SV.undef (0 : Int) SV.undef ([] : List (List D))
theorem te72 : ta72 tu49 tu64 tu77 tu81 tu87 = t72 := (by rw [tu49_eq, tu64_eq, tu77_eq, tu81_eq, tu87_eq] : ta72 tu49 tu64 tu77 tu81 tu87 = ta72 t49 t64 t77 t81 t87).trans (by kernel_rfl)
def tw72 (vs : List Vr) : Rs := ta72 tu49 tu64 tu77 tu81 tu87 (vI vs 0) (vI vs 1) (vI vs 2) (vI vs 3) (vI vs 4) (vI vs 5) (vI vs 6) (vI vs 7) (vL vs 8) (vI vs 9) (vL vs 10) (vL vs 11) (vL vs 12)
def tp72 (vs : List Vr) : Rs := tu72 (vI vs 0) (vI vs 1) (vI vs 2) (vI vs 3) (vI vs 4) (vI vs 5) (vI vs 6) (vI vs 7) (vL vs 8) (vI vs 9) (vL vs 10) (vL vs 11) (vL vs 12)
theorem tpw72 : tp72 = tw72 := funext fun vs => by unfold tp72 tw72; rw [tu72_eq, te72]
def th72 (xs : List DV) : Bool × List DV × List (List D) := gOf zr72 zo72 (argsT A72 tp72 xs)
def ta36 (t13 : Int → Int → Int → Int → Int → Int → Int → Int → List (List D) → Int → List (List D) → List (List D) → List (List D) → Rs) (t63 : Int → Int → Int → Int → Int → Int → Int → Int → List (List D) → Int → List (List D) → List (List D) → List (List D) → Rs) (t72 : Int → Int → Int → Int → Int → Int → Int → Int → List (List D) → Int → List (List D) → List (List D) → List (List D) → Rs) (n1 : Int) (n2 : Int) (n3 : Int) (n4 : Int) (n5 : Int) (n6 : Int) (n7 : Int) (n8 : Int) (l9 : List (List D)) (n10 : Int) (l11 : List (List D)) (l12 : List (List D)) (l13 : List (List D)) : Rs :=
  let y1 := t13 n1 n2 n3 n4 n5 n6 n7 n8 l9 n10 l11 l12 l13
  chk (okR zr13 zo13 y1) <|
  if !(asB (resC y1 0 0)) then
   some ([.agg [.i .i64 (0 : Int), .i .i64 (0 : Int), .i .i64 (0 : Int), .i .i64 (0 : Int), .i .i64 (0 : Int), .i .i64 (0 : Int), .i .i64 (0 : Int), .i .i64 (0 : Int), .l ([] : List (List D)), .i .i64 (0 : Int), .l ([] : List (List D)), .l ([] : List (List D)), .l ([] : List (List D))], .one (.l ([] : List (List D)))], [])
  else
   let y2 := t63 n1 n2 n3 n4 n5 n6 n7 n8 l9 n10 l11 l12 l13
   chk (okR zr63 zo63 y2) <|
   let y3 := t72 (asI (resC y2 0 0)) (asI (resC y2 0 1)) (asI (resC y2 0 2)) (asI (resC y2 0 3)) (asI (resC y2 0 4)) (asI (resC y2 0 5)) (asI (resC y2 0 6)) (asI (resC y2 0 7)) (asL (resC y2 0 8)) (asI (resC y2 0 9)) (asL (resC y2 0 10)) (asL (resC y2 0 11)) (asL (resC y2 0 12))
   chk (okR zr72 zo72 y3) <|
   some ([.agg [.i .i64 (asI (outC y3 0 0)), .i .i64 (asI (outC y3 0 1)), .i .i64 (asI (outC y3 0 2)), .i .i64 (asI (outC y3 0 3)), .i .i64 (asI (outC y3 0 4)), .i .i64 (asI (outC y3 0 5)), .i .i64 (asI (outC y3 0 6)), .i .i64 (asI (outC y3 0 7)), .l (asL (outC y3 0 8)), .i .i64 (asI (outC y3 0 9)), .l (asL (outC y3 0 10)), .l (asL (outC y3 0 11)), .l (asL (outC y3 0 12))], .one (.l (asL (resC y3 0 0)))], [])
theorem te36 : ta36 tu13 tu63 tu72 = t36 := (by rw [tu13_eq, tu63_eq, tu72_eq] : ta36 tu13 tu63 tu72 = ta36 t13 t63 t72).trans (by kernel_rfl)
def tw36 (vs : List Vr) : Rs := ta36 tu13 tu63 tu72 (vI vs 0) (vI vs 1) (vI vs 2) (vI vs 3) (vI vs 4) (vI vs 5) (vI vs 6) (vI vs 7) (vL vs 8) (vI vs 9) (vL vs 10) (vL vs 11) (vL vs 12)
def tp36 (vs : List Vr) : Rs := tu36 (vI vs 0) (vI vs 1) (vI vs 2) (vI vs 3) (vI vs 4) (vI vs 5) (vI vs 6) (vI vs 7) (vL vs 8) (vI vs 9) (vL vs 10) (vL vs 11) (vL vs 12)
theorem tpw36 : tp36 = tw36 := funext fun vs => by unfold tp36 tw36; rw [tu36_eq, te36]
def th36 (xs : List DV) : Bool × List DV × List (List D) := gOf zr36 zo36 (argsT A36 tp36 xs)
theorem te78 : t78 = t78 := rfl
def tw78 (vs : List Vr) : Rs := t78 (vI vs 0) (vS vs 1) (vI vs 2) (vS vs 3)
def tp78 (vs : List Vr) : Rs := tu78 (vI vs 0) (vS vs 1) (vI vs 2) (vS vs 3)
theorem tpw78 : tp78 = tw78 := funext fun vs => by unfold tp78 tw78; rw [tu78_eq, te78]
def th78 (xs : List DV) : Bool × List DV × List (List D) := gOf zr78 zo78 (argsT A78 tp78 xs)
def la52o1 (t78 : Int → ByteArray → Int → ByteArray → Rs) (l8 : List (List D)) (l9 : List (List D)) (b10 : Bool) (b12 : Bool) (q1 : Int → Bool → Bool → Rs) (q2 : Int → Bool → SV → Rs) : Nat → Int → SV → SV → Rs
  | 0, _, _, _ => none
  | m + 1, n11, v13, v14 =>
    let y1 := decide (n11 < (l8.length : Int))
    if y1 then
     let y2 := l8.getD n11.toNat []
     chk (decide (0 ≤ n11) && decide (n11 < l8.length) && isRow z92 y2) <|
     let y3 := l9.getD n11.toNat []
     chk (decide (0 ≤ n11) && decide (n11 < l9.length) && isRow z92 y3) <|
     let y4 := t78 (asI (nthD y2 0)) (asS (nthD y2 1)) (asI (nthD y3 0)) (asS (nthD y3 1))
     chk (okR zr78 zo78 y4) <|
     let y5 := !(asB (resC y4 0 0))
     if y5 then
      q1 n11 y1 y5
     else
      la52o1 t78 l8 l9 b10 b12 q1 q2 m (w64 (n11 + (1 : Int))) (.d (.b y1)) (.d (.b y5))
    else
     q2 n11 y1 (keepV [] v14)
def ta52 (t78 : Int → ByteArray → Int → ByteArray → Rs) (l1 : List (List D)) (l2 : List (List D)) : Rs :=
  let y1 := (l1.length : Int) != (l2.length : Int)
  if y1 then
   some ([.one (.b false)], [])
  else
   la52o1 t78 l1 l2 false y1
    (fun (n28 : Int) (b29 : Bool) (b30 : Bool) =>
     some ([.one (.b false)], []))
    (fun (n31 : Int) (b32 : Bool) (v33 : SV) =>
     some ([.one (.b true)], [])) KK (0 : Int) SV.undef SV.undef
theorem te52 : ta52 tu78 = t52 := (by rw [tu78_eq] : ta52 tu78 = ta52 t78).trans (by kernel_rfl)
def tw52 (vs : List Vr) : Rs := ta52 tu78 (vL vs 0) (vL vs 1)
def tp52 (vs : List Vr) : Rs := tu52 (vL vs 0) (vL vs 1)
theorem tpw52 : tp52 = tw52 := funext fun vs => by unfold tp52 tw52; rw [tu52_eq, te52]
def th52 (xs : List DV) : Bool × List DV × List (List D) := gOf zr52 zo52 (argsT A52 tp52 xs)
theorem te53 : t53 = t53 := rfl
def tw53 (vs : List Vr) : Rs := t53 (vL vs 0) (vL vs 1)
def tp53 (vs : List Vr) : Rs := tu53 (vL vs 0) (vL vs 1)
theorem tpw53 : tp53 = tw53 := funext fun vs => by unfold tp53 tw53; rw [tu53_eq, te53]
def th53 (xs : List DV) : Bool × List DV × List (List D) := gOf zr53 zo53 (argsT A53 tp53 xs)
def ta14 (t52 : List (List D) → List (List D) → Rs) (t53 : List (List D) → List (List D) → Rs) (n1 : Int) (n2 : Int) (n3 : Int) (n4 : Int) (n5 : Int) (n6 : Int) (n7 : Int) (n8 : Int) (l9 : List (List D)) (n10 : Int) (l11 : List (List D)) (l12 : List (List D)) (l13 : List (List D)) (n14 : Int) (n15 : Int) (n16 : Int) (n17 : Int) (n18 : Int) (n19 : Int) (n20 : Int) (n21 : Int) (l22 : List (List D)) (n23 : Int) (l24 : List (List D)) (l25 : List (List D)) (l26 : List (List D)) : Rs :=
  if n1 != n14 then
   some ([.one (.b false)], [])
  else
   if n2 != n15 then
    some ([.one (.b false)], [])
   else
    if n3 != n16 then
     some ([.one (.b false)], [])
    else
     if n4 != n17 then
      some ([.one (.b false)], [])
     else
      if n5 != n18 then
       some ([.one (.b false)], [])
      else
       if n6 != n19 then
        some ([.one (.b false)], [])
       else
        if n7 != n20 then
         some ([.one (.b false)], [])
        else
         if n8 != n21 then
          some ([.one (.b false)], [])
         else
          chk (okR zr52 zo52 (t52 l9 l22)) <|
          if !(asB (resC (t52 l9 l22) 0 0)) then
           some ([.one (.b false)], [])
          else
           if n10 != n23 then
            some ([.one (.b false)], [])
           else
            chk (okR zr53 zo53 (t53 l11 l24)) <|
            if !(asB (resC (t53 l11 l24) 0 0)) then
             some ([.one (.b false)], [])
            else
             chk (okR zr53 zo53 (t53 l12 l25)) <|
             if !(asB (resC (t53 l12 l25) 0 0)) then
              some ([.one (.b false)], [])
             else
              chk (okR zr53 zo53 (t53 l13 l26)) <|
              if !(asB (resC (t53 l13 l26) 0 0)) then
               some ([.one (.b false)], [])
              else
               some ([.one (.b true)], [])
theorem te14 : ta14 tu52 tu53 = t14 := (by rw [tu52_eq, tu53_eq] : ta14 tu52 tu53 = ta14 t52 t53).trans (by kernel_rfl)
def tw14 (vs : List Vr) : Rs := ta14 tu52 tu53 (vI vs 0) (vI vs 1) (vI vs 2) (vI vs 3) (vI vs 4) (vI vs 5) (vI vs 6) (vI vs 7) (vL vs 8) (vI vs 9) (vL vs 10) (vL vs 11) (vL vs 12) (vI vs 13) (vI vs 14) (vI vs 15) (vI vs 16) (vI vs 17) (vI vs 18) (vI vs 19) (vI vs 20) (vL vs 21) (vI vs 22) (vL vs 23) (vL vs 24) (vL vs 25)
def tp14 (vs : List Vr) : Rs := tu14 (vI vs 0) (vI vs 1) (vI vs 2) (vI vs 3) (vI vs 4) (vI vs 5) (vI vs 6) (vI vs 7) (vL vs 8) (vI vs 9) (vL vs 10) (vL vs 11) (vL vs 12) (vI vs 13) (vI vs 14) (vI vs 15) (vI vs 16) (vI vs 17) (vI vs 18) (vI vs 19) (vI vs 20) (vL vs 21) (vI vs 22) (vL vs 23) (vL vs 24) (vL vs 25)
theorem tpw14 : tp14 = tw14 := funext fun vs => by unfold tp14 tw14; rw [tu14_eq, te14]
def th14 (xs : List DV) : Bool × List DV × List (List D) := gOf zr14 zo14 (argsT A14 tp14 xs)
def ta67 (t52 : List (List D) → List (List D) → Rs) (n1 : Int) (n2 : Int) (n3 : Int) (n4 : Int) (n5 : Int) (n6 : Int) (n7 : Int) (b8 : Bool) (l9 : List (List D)) (s10 : ByteArray) (n11 : Int) (n12 : Int) (n13 : Int) (n14 : Int) (n15 : Int) (n16 : Int) (n17 : Int) (b18 : Bool) (l19 : List (List D)) (s20 : ByteArray) : Rs :=
  if n1 != n11 then
   some ([.one (.b false)], [])
  else
   if n2 != n12 then
    some ([.one (.b false)], [])
   else
    if n3 != n13 then
     some ([.one (.b false)], [])
    else
     if n4 != n14 then
      some ([.one (.b false)], [])
     else
      if n5 != n15 then
       some ([.one (.b false)], [])
      else
       if n6 != n16 then
        some ([.one (.b false)], [])
       else
        if n7 != n17 then
         some ([.one (.b false)], [])
        else
         if !(b8 == b18) then
          some ([.one (.b false)], [])
         else
          chk (okR zr52 zo52 (t52 l9 l19)) <|
          if !(asB (resC (t52 l9 l19) 0 0)) then
           some ([.one (.b false)], [])
          else
           if !(s10.toList == s20.toList) then
            some ([.one (.b false)], [])
           else
            some ([.one (.b true)], [])
theorem te67 : ta67 tu52 = t67 := (by rw [tu52_eq] : ta67 tu52 = ta67 t52).trans (by kernel_rfl)
def tw67 (vs : List Vr) : Rs := ta67 tu52 (vI vs 0) (vI vs 1) (vI vs 2) (vI vs 3) (vI vs 4) (vI vs 5) (vI vs 6) (vB vs 7) (vL vs 8) (vS vs 9) (vI vs 10) (vI vs 11) (vI vs 12) (vI vs 13) (vI vs 14) (vI vs 15) (vI vs 16) (vB vs 17) (vL vs 18) (vS vs 19)
def tp67 (vs : List Vr) : Rs := tu67 (vI vs 0) (vI vs 1) (vI vs 2) (vI vs 3) (vI vs 4) (vI vs 5) (vI vs 6) (vB vs 7) (vL vs 8) (vS vs 9) (vI vs 10) (vI vs 11) (vI vs 12) (vI vs 13) (vI vs 14) (vI vs 15) (vI vs 16) (vB vs 17) (vL vs 18) (vS vs 19)
theorem tpw67 : tp67 = tw67 := funext fun vs => by unfold tp67 tw67; rw [tu67_eq, te67]
def th67 (xs : List DV) : Bool × List DV × List (List D) := gOf zr67 zo67 (argsT A67 tp67 xs)
def la30o1 (t67 : Int → Int → Int → Int → Int → Int → Int → Bool → List (List D) → ByteArray → Int → Int → Int → Int → Int → Int → Int → Bool → List (List D) → ByteArray → Rs) (l8 : List (List D)) (l9 : List (List D)) (b10 : Bool) (b12 : Bool) (q1 : Int → Bool → Bool → Rs) (q2 : Int → Bool → SV → Rs) : Nat → Int → SV → SV → Rs
  | 0, _, _, _ => none
  | m + 1, n11, v13, v14 =>
    let y1 := decide (n11 < (l8.length : Int))
    if y1 then
     let y2 := l8.getD n11.toNat []
     chk (decide (0 ≤ n11) && decide (n11 < l8.length) && isRow z83 y2) <|
     let y3 := l9.getD n11.toNat []
     chk (decide (0 ≤ n11) && decide (n11 < l9.length) && isRow z83 y3) <|
     let y4 := t67 (asI (nthD y2 0)) (asI (nthD y2 1)) (asI (nthD y2 2)) (asI (nthD y2 3)) (asI (nthD y2 4)) (asI (nthD y2 5)) (asI (nthD y2 6)) (asB (nthD y2 7)) (asL (nthD y2 8)) (asS (nthD y2 9)) (asI (nthD y3 0)) (asI (nthD y3 1)) (asI (nthD y3 2)) (asI (nthD y3 3)) (asI (nthD y3 4)) (asI (nthD y3 5)) (asI (nthD y3 6)) (asB (nthD y3 7)) (asL (nthD y3 8)) (asS (nthD y3 9))
     chk (okR zr67 zo67 y4) <|
     let y5 := !(asB (resC y4 0 0))
     if y5 then
      q1 n11 y1 y5
     else
      la30o1 t67 l8 l9 b10 b12 q1 q2 m (w64 (n11 + (1 : Int))) (.d (.b y1)) (.d (.b y5))
    else
     q2 n11 y1 (keepV [] v14)
def ta30 (t67 : Int → Int → Int → Int → Int → Int → Int → Bool → List (List D) → ByteArray → Int → Int → Int → Int → Int → Int → Int → Bool → List (List D) → ByteArray → Rs) (l1 : List (List D)) (l2 : List (List D)) : Rs :=
  let y1 := (l1.length : Int) != (l2.length : Int)
  if y1 then
   some ([.one (.b false)], [])
  else
   la30o1 t67 l1 l2 false y1
    (fun (n28 : Int) (b29 : Bool) (b30 : Bool) =>
     some ([.one (.b false)], []))
    (fun (n31 : Int) (b32 : Bool) (v33 : SV) =>
     some ([.one (.b true)], [])) KK (0 : Int) SV.undef SV.undef
theorem te30 : ta30 tu67 = t30 := (by rw [tu67_eq] : ta30 tu67 = ta30 t67).trans (by kernel_rfl)
def tw30 (vs : List Vr) : Rs := ta30 tu67 (vL vs 0) (vL vs 1)
def tp30 (vs : List Vr) : Rs := tu30 (vL vs 0) (vL vs 1)
theorem tpw30 : tp30 = tw30 := funext fun vs => by unfold tp30 tw30; rw [tu30_eq, te30]
def th30 (xs : List DV) : Bool × List DV × List (List D) := gOf zr30 zo30 (argsT A30 tp30 xs)
theorem te68 : t68 = t68 := rfl
def tw68 (vs : List Vr) : Rs := t68 (vI vs 0)
def tp68 (vs : List Vr) : Rs := tu68 (vI vs 0)
theorem tpw68 : tp68 = tw68 := funext fun vs => by unfold tp68 tw68; rw [tu68_eq, te68]
def th68 (xs : List DV) : Bool × List DV × List (List D) := gOf zr68 zo68 (argsT A68 tp68 xs)
def la55o0 (t68 : Int → Rs) (n8 : Int) (q1 : Int → Int → Bool → List (List D) → Rs) : Nat → Int → Int → SV → List (List D) → Rs
  | 0, _, _, _, _ => none
  | m + 1, n7, n9, v10, l11 =>
    let y1 := decide (n9 < (l11.length : Int))
    if y1 then
     chk (decide (0 ≤ n9) && decide (n9 < l11.length)) <|
     chk (decide (1 ≤ 2 ∧ (n9.toNat) < l11.length)) <|
     let y2 := w64 (n7 + (1 : Int))
     let y3 := t68 y2
     chk (okR zr68 zo68 y3) <|
     let y4 := stR l11 (n9.toNat) 0 [.i .i64 n7]
     chk (decide (0 ≤ n9) && decide (n9 < y4.length)) <|
     chk (decide (2 ≤ 2 ∧ (n9.toNat) < y4.length)) <|
     la55o0 t68 n8 q1 m (w64 (y2 + (1 : Int))) (w64 (n9 + (1 : Int))) (.d (.b y1)) (stR y4 (n9.toNat) 1 [.s (asS (resC y3 0 0))])
    else
     q1 n7 n9 y1 l11
def ta55 (t68 : Int → Rs) (l1 : List (List D)) (n2 : Int) : Rs :=
  la55o0 t68 (0 : Int)
   (fun (n21 : Int) (n22 : Int) (b23 : Bool) (l24 : List (List D)) =>
    some ([.one (.i .i64 n21)], [[.l l24]])) KK n2 (0 : Int) SV.undef l1
theorem te55 : ta55 tu68 = t55 := (by rw [tu68_eq] : ta55 tu68 = ta55 t68).trans (by kernel_rfl)
def tw55 (vs : List Vr) : Rs := ta55 tu68 (vL vs 0) (vI vs 1)
def tp55 (vs : List Vr) : Rs := tu55 (vL vs 0) (vI vs 1)
theorem tpw55 : tp55 = tw55 := funext fun vs => by unfold tp55 tw55; rw [tu55_eq, te55]
def th55 (xs : List DV) : Bool × List DV × List (List D) := gOf zr55 zo55 (argsT A55 tp55 xs)
theorem te56 : t56 = t56 := rfl
def tw56 (vs : List Vr) : Rs := t56 (vL vs 0) (vI vs 1)
def tp56 (vs : List Vr) : Rs := tu56 (vL vs 0) (vI vs 1)
theorem tpw56 : tp56 = tw56 := funext fun vs => by unfold tp56 tw56; rw [tu56_eq, te56]
def th56 (xs : List DV) : Bool × List DV × List (List D) := gOf zr56 zo56 (argsT A56 tp56 xs)
def ta18 (t55 : List (List D) → Int → Rs) (t56 : List (List D) → Int → Rs) (n1 : Int) (n2 : Int) (n3 : Int) (n4 : Int) (n5 : Int) (n6 : Int) (n7 : Int) (n8 : Int) (l9 : List (List D)) (n10 : Int) (l11 : List (List D)) (l12 : List (List D)) (l13 : List (List D)) (n14 : Int) : Rs :=
  chk (okR zr55 zo55 (t55 l9 n14)) <|
  let y1 := t56 l11 (asI (resC (t55 l9 n14) 0 0))
  chk (okR zr56 zo56 y1) <|
  let y2 := t56 l12 (asI (resC y1 0 0))
  chk (okR zr56 zo56 y2) <|
  let y3 := t56 l13 (asI (resC y2 0 0))
  chk (okR zr56 zo56 y3) <|
  some ([.one (.i .i64 (asI (resC y3 0 0)))], [[.i .i64 n1, .i .i64 n2, .i .i64 n3, .i .i64 n4, .i .i64 n5, .i .i64 n6, .i .i64 n7, .i .i64 n8, .l (asL (outC (t55 l9 n14) 0 0)), .i .i64 n10, .l (asL (outC y1 0 0)), .l (asL (outC y2 0 0)), .l (asL (outC y3 0 0))]])
theorem te18 : ta18 tu55 tu56 = t18 := (by rw [tu55_eq, tu56_eq] : ta18 tu55 tu56 = ta18 t55 t56).trans (by kernel_rfl)
def tw18 (vs : List Vr) : Rs := ta18 tu55 tu56 (vI vs 0) (vI vs 1) (vI vs 2) (vI vs 3) (vI vs 4) (vI vs 5) (vI vs 6) (vI vs 7) (vL vs 8) (vI vs 9) (vL vs 10) (vL vs 11) (vL vs 12) (vI vs 13)
def tp18 (vs : List Vr) : Rs := tu18 (vI vs 0) (vI vs 1) (vI vs 2) (vI vs 3) (vI vs 4) (vI vs 5) (vI vs 6) (vI vs 7) (vL vs 8) (vI vs 9) (vL vs 10) (vL vs 11) (vL vs 12) (vI vs 13)
theorem tpw18 : tp18 = tw18 := funext fun vs => by unfold tp18 tw18; rw [tu18_eq, te18]
def th18 (xs : List DV) : Bool × List DV × List (List D) := gOf zr18 zo18 (argsT A18 tp18 xs)
def la31o0 (t55 : List (List D) → Int → Rs) (t68 : Int → Rs) (n8 : Int) (q1 : Int → Int → Bool → List (List D) → Rs) : Nat → Int → Int → SV → List (List D) → Rs
  | 0, _, _, _, _ => none
  | m + 1, n7, n9, v10, l11 =>
    let y1 := decide (n9 < (l11.length : Int))
    if y1 then
     chk (decide (0 ≤ n9) && decide (n9 < l11.length)) <|
     chk (decide (1 ≤ 10 ∧ (n9.toNat) < l11.length)) <|
     let y2 := stR l11 (n9.toNat) 0 [.i .i64 n7]
     chk (decide (0 ≤ n9) && decide (n9 < y2.length)) <|
     chk (decide (2 ≤ 10 ∧ (n9.toNat) < y2.length)) <|
     let y3 := w64 (n7 + (1 : Int))
     let y4 := stR y2 (n9.toNat) 1 [.i .i64 y3]
     chk (decide (0 ≤ n9) && decide (n9 < y4.length)) <|
     chk (decide (3 ≤ 10 ∧ (n9.toNat) < y4.length)) <|
     let y5 := w64 (y3 + (1 : Int))
     let y6 := stR y4 (n9.toNat) 2 [.i .i64 y5]
     chk (decide (0 ≤ n9) && decide (n9 < y6.length)) <|
     chk (decide (4 ≤ 10 ∧ (n9.toNat) < y6.length)) <|
     let y7 := w64 (y5 + (1 : Int))
     let y8 := stR y6 (n9.toNat) 3 [.i .i64 y7]
     chk (decide (0 ≤ n9) && decide (n9 < y8.length)) <|
     chk (decide (5 ≤ 10 ∧ (n9.toNat) < y8.length)) <|
     let y9 := w64 (y7 + (1 : Int))
     let y10 := stR y8 (n9.toNat) 4 [.i .i64 y9]
     chk (decide (0 ≤ n9) && decide (n9 < y10.length)) <|
     chk (decide (6 ≤ 10 ∧ (n9.toNat) < y10.length)) <|
     let y11 := w64 (y9 + (1 : Int))
     let y12 := stR y10 (n9.toNat) 5 [.i .i64 y11]
     chk (decide (0 ≤ n9) && decide (n9 < y12.length)) <|
     chk (decide (7 ≤ 10 ∧ (n9.toNat) < y12.length)) <|
     let y13 := w64 (y11 + (1 : Int))
     let y14 := stR y12 (n9.toNat) 6 [.i .i64 y13]
     chk (decide (0 ≤ n9) && decide (n9 < y14.length)) <|
     chk (decide (8 ≤ 10 ∧ (n9.toNat) < y14.length)) <|
     let y15 := w64 (y13 + (1 : Int))
     let y16 := stR y14 (n9.toNat) 7 [.b ((y15.tmod (3 : Int)) == (0 : Int))]
     chk (decide (0 ≤ n9) && decide (n9 < y16.length)) <|
     let y17 := y16.getD (n9.toNat) []
     let y18 := asL (nthD y17 8)
     let y19 := t55 y18 (w64 (y15 + (1 : Int)))
     chk (okR zr55 zo55 y19 && (decide (8 + 1 ≤ y17.length) && isF [.l []] 8 y17 && fstSz 2 y18)) <|
     let y20 := asI (resC y19 0 0)
     let y21 := t68 y20
     chk (okR zr68 zo68 y21) <|
     let y22 := stR y16 (n9.toNat) 8 [.l (asL (outC y19 0 0))]
     chk (decide (0 ≤ n9) && decide (n9 < y22.length)) <|
     chk (decide (10 ≤ 10 ∧ (n9.toNat) < y22.length)) <|
     la31o0 t55 t68 n8 q1 m (w64 (y20 + (1 : Int))) (w64 (n9 + (1 : Int))) (.d (.b y1)) (stR y22 (n9.toNat) 9 [.s (asS (resC y21 0 0))])
    else
     q1 n7 n9 y1 l11
def ta31 (t55 : List (List D) → Int → Rs) (t68 : Int → Rs) (l1 : List (List D)) (n2 : Int) : Rs :=
  la31o0 t55 t68 (0 : Int)
   (fun (n21 : Int) (n22 : Int) (b23 : Bool) (l24 : List (List D)) =>
    some ([.one (.i .i64 n21)], [[.l l24]])) KK n2 (0 : Int) SV.undef l1
theorem te31 : ta31 tu55 tu68 = t31 := (by rw [tu55_eq, tu68_eq] : ta31 tu55 tu68 = ta31 t55 t68).trans (by kernel_rfl)
def tw31 (vs : List Vr) : Rs := ta31 tu55 tu68 (vL vs 0) (vI vs 1)
def tp31 (vs : List Vr) : Rs := tu31 (vL vs 0) (vI vs 1)
theorem tpw31 : tp31 = tw31 := funext fun vs => by unfold tp31 tw31; rw [tu31_eq, te31]
def th31 (xs : List DV) : Bool × List DV × List (List D) := gOf zr31 zo31 (argsT A31 tp31 xs)
def la57o0 (t68 : Int → Rs) (l7 : List (List D)) (n9 : Int) (q1 : Int → Int → Bool → Bool → SV → Rs) (q2 : Int → Int → Bool → Bool → Bool → Rs) (q3 : Int → Int → Bool → SV → SV → Rs) : Nat → Int → Int → SV → SV → SV → Rs
  | 0, _, _, _, _, _ => none
  | m + 1, n8, n10, v11, v12, v13 =>
    let y1 := decide (n10 < (l7.length : Int))
    if y1 then
     let y2 := l7.getD n10.toNat []
     chk (decide (0 ≤ n10) && decide (n10 < l7.length) && isRow z92 y2) <|
     let y3 := (asI (nthD y2 0)) != n8
     if y3 then
      q1 n8 n10 y1 y3 v13
     else
      let y4 := l7.getD n10.toNat []
      chk (decide (0 ≤ n10) && decide (n10 < l7.length) && isRow z92 y4) <|
      let y5 := w64 (n8 + (1 : Int))
      let y6 := t68 y5
      chk (okR zr68 zo68 y6) <|
      let y7 := !((asS (nthD y4 1)).toList == (asS (resC y6 0 0)).toList)
      if y7 then
       q2 y5 n10 y1 y3 y7
      else
       la57o0 t68 l7 n9 q1 q2 q3 m (w64 (y5 + (1 : Int))) (w64 (n10 + (1 : Int))) (.d (.b y1)) (.d (.b y3)) (.d (.b y7))
    else
     q3 n8 n10 y1 (keepV [] v12) (keepV [] v13)
def ta57 (t68 : Int → Rs) (l1 : List (List D)) (n2 : Int) : Rs :=
  la57o0 t68 l1 (0 : Int)
   (fun (n36 : Int) (n37 : Int) (b38 : Bool) (b39 : Bool) (v40 : SV) =>
    some ([.one (.i .i64 (-1 : Int))], []))
   (fun (n41 : Int) (n42 : Int) (b43 : Bool) (b44 : Bool) (b45 : Bool) =>
    some ([.one (.i .i64 (-1 : Int))], []))
   (fun (n46 : Int) (n47 : Int) (b48 : Bool) (v49 : SV) (v50 : SV) =>
    some ([.one (.i .i64 n46)], [])) KK n2 (0 : Int) SV.undef SV.undef SV.undef
theorem te57 : ta57 tu68 = t57 := (by rw [tu68_eq] : ta57 tu68 = ta57 t68).trans (by kernel_rfl)
def tw57 (vs : List Vr) : Rs := ta57 tu68 (vL vs 0) (vI vs 1)
def tp57 (vs : List Vr) : Rs := tu57 (vL vs 0) (vI vs 1)
theorem tpw57 : tp57 = tw57 := funext fun vs => by unfold tp57 tw57; rw [tu57_eq, te57]
def th57 (xs : List DV) : Bool × List DV × List (List D) := gOf zr57 zo57 (argsT A57 tp57 xs)
theorem te60 : t60 = t60 := rfl
def tw60 (vs : List Vr) : Rs := t60 (vL vs 0) (vI vs 1)
def tp60 (vs : List Vr) : Rs := tu60 (vL vs 0) (vI vs 1)
theorem tpw60 : tp60 = tw60 := funext fun vs => by unfold tp60 tw60; rw [tu60_eq, te60]
def th60 (xs : List DV) : Bool × List DV × List (List D) := gOf zr60 zo60 (argsT A60 tp60 xs)
def ta25 (t57 : List (List D) → Int → Rs) (t60 : List (List D) → Int → Rs) (n1 : Int) (n2 : Int) (n3 : Int) (n4 : Int) (n5 : Int) (n6 : Int) (n7 : Int) (n8 : Int) (l9 : List (List D)) (n10 : Int) (l11 : List (List D)) (l12 : List (List D)) (l13 : List (List D)) (n14 : Int) : Rs :=
  chk (okR zr57 zo57 (t57 l9 n14)) <|
  let y1 := asI (resC (t57 l9 n14) 0 0)
  if decide (y1 < (0 : Int)) then
   some ([.one (.i .i64 (-1 : Int))], [])
  else
   let y2 := t60 l11 y1
   chk (okR zr60 zo60 y2) <|
   let y3 := asI (resC y2 0 0)
   if decide (y3 < (0 : Int)) then
    some ([.one (.i .i64 (-1 : Int))], [])
   else
    let y4 := t60 l12 y3
    chk (okR zr60 zo60 y4) <|
    let y5 := asI (resC y4 0 0)
    if decide (y5 < (0 : Int)) then
     some ([.one (.i .i64 (-1 : Int))], [])
    else
     let y6 := t60 l13 y5
     chk (okR zr60 zo60 y6) <|
     let y7 := asI (resC y6 0 0)
     if decide (y7 < (0 : Int)) then
      some ([.one (.i .i64 (-1 : Int))], [])
     else
      some ([.one (.i .i64 y7)], [])
theorem te25 : ta25 tu57 tu60 = t25 := (by rw [tu57_eq, tu60_eq] : ta25 tu57 tu60 = ta25 t57 t60).trans (by kernel_rfl)
def tw25 (vs : List Vr) : Rs := ta25 tu57 tu60 (vI vs 0) (vI vs 1) (vI vs 2) (vI vs 3) (vI vs 4) (vI vs 5) (vI vs 6) (vI vs 7) (vL vs 8) (vI vs 9) (vL vs 10) (vL vs 11) (vL vs 12) (vI vs 13)
def tp25 (vs : List Vr) : Rs := tu25 (vI vs 0) (vI vs 1) (vI vs 2) (vI vs 3) (vI vs 4) (vI vs 5) (vI vs 6) (vI vs 7) (vL vs 8) (vI vs 9) (vL vs 10) (vL vs 11) (vL vs 12) (vI vs 13)
theorem tpw25 : tp25 = tw25 := funext fun vs => by unfold tp25 tw25; rw [tu25_eq, te25]
def th25 (xs : List DV) : Bool × List DV × List (List D) := gOf zr25 zo25 (argsT A25 tp25 xs)
def la32o0 (t57 : List (List D) → Int → Rs) (t68 : Int → Rs) (l7 : List (List D)) (n9 : Int) (q1 : Int → Int → Bool → Bool → SV → SV → SV → SV → SV → SV → SV → SV → SV → Rs) (q2 : Int → Int → Bool → Bool → Bool → SV → SV → SV → SV → SV → SV → SV → SV → Rs) (q3 : Int → Int → Bool → Bool → Bool → Bool → SV → SV → SV → SV → SV → SV → SV → Rs) (q4 : Int → Int → Bool → Bool → Bool → Bool → Bool → SV → SV → SV → SV → SV → SV → Rs) (q5 : Int → Int → Bool → Bool → Bool → Bool → Bool → Bool → SV → SV → SV → SV → SV → Rs) (q6 : Int → Int → Bool → Bool → Bool → Bool → Bool → Bool → Bool → SV → SV → SV → SV → Rs) (q7 : Int → Int → Bool → Bool → Bool → Bool → Bool → Bool → Bool → Bool → SV → SV → SV → Rs) (q8 : Int → Int → Bool → Bool → Bool → Bool → Bool → Bool → Bool → Bool → Bool → SV → SV → Rs) (q9 : Int → Int → Bool → Bool → Bool → Bool → Bool → Bool → Bool → Bool → Bool → Bool → SV → Rs) (q10 : Int → Int → Bool → Bool → Bool → Bool → Bool → Bool → Bool → Bool → Bool → Bool → Bool → Rs) (q11 : Int → Int → Bool → SV → SV → SV → SV → SV → SV → SV → SV → SV → SV → Rs) : Nat → Int → Int → SV → SV → SV → SV → SV → SV → SV → SV → SV → SV → SV → Rs
  | 0, _, _, _, _, _, _, _, _, _, _, _, _, _ => none
  | m + 1, n8, n10, v11, v12, v13, v14, v15, v16, v17, v18, v19, v20, v21 =>
    let y1 := decide (n10 < (l7.length : Int))
    if y1 then
     let y2 := l7.getD n10.toNat []
     chk (decide (0 ≤ n10) && decide (n10 < l7.length) && isRow z83 y2) <|
     let y3 := (asI (nthD y2 0)) != n8
     if y3 then
      q1 n8 n10 y1 y3 v13 v14 v15 v16 v17 v18 v19 v20 v21
     else
      let y4 := l7.getD n10.toNat []
      chk (decide (0 ≤ n10) && decide (n10 < l7.length) && isRow z83 y4) <|
      let y5 := w64 (n8 + (1 : Int))
      let y6 := (asI (nthD y4 1)) != y5
      if y6 then
       q2 y5 n10 y1 y3 y6 v14 v15 v16 v17 v18 v19 v20 v21
      else
       let y7 := l7.getD n10.toNat []
       chk (decide (0 ≤ n10) && decide (n10 < l7.length) && isRow z83 y7) <|
       let y8 := w64 (y5 + (1 : Int))
       let y9 := (asI (nthD y7 2)) != y8
       if y9 then
        q3 y8 n10 y1 y3 y6 y9 v15 v16 v17 v18 v19 v20 v21
       else
        let y10 := l7.getD n10.toNat []
        chk (decide (0 ≤ n10) && decide (n10 < l7.length) && isRow z83 y10) <|
        let y11 := w64 (y8 + (1 : Int))
        let y12 := (asI (nthD y10 3)) != y11
        if y12 then
         q4 y11 n10 y1 y3 y6 y9 y12 v16 v17 v18 v19 v20 v21
        else
         let y13 := l7.getD n10.toNat []
         chk (decide (0 ≤ n10) && decide (n10 < l7.length) && isRow z83 y13) <|
         let y14 := w64 (y11 + (1 : Int))
         let y15 := (asI (nthD y13 4)) != y14
         if y15 then
          q5 y14 n10 y1 y3 y6 y9 y12 y15 v17 v18 v19 v20 v21
         else
          let y16 := l7.getD n10.toNat []
          chk (decide (0 ≤ n10) && decide (n10 < l7.length) && isRow z83 y16) <|
          let y17 := w64 (y14 + (1 : Int))
          let y18 := (asI (nthD y16 5)) != y17
          if y18 then
           q6 y17 n10 y1 y3 y6 y9 y12 y15 y18 v18 v19 v20 v21
          else
           let y19 := l7.getD n10.toNat []
           chk (decide (0 ≤ n10) && decide (n10 < l7.length) && isRow z83 y19) <|
           let y20 := w64 (y17 + (1 : Int))
           let y21 := (asI (nthD y19 6)) != y20
           if y21 then
            q7 y20 n10 y1 y3 y6 y9 y12 y15 y18 y21 v19 v20 v21
           else
            let y22 := l7.getD n10.toNat []
            chk (decide (0 ≤ n10) && decide (n10 < l7.length) && isRow z83 y22) <|
            let y23 := w64 (y20 + (1 : Int))
            let y24 := !((asB (nthD y22 7)) == ((y23.tmod (3 : Int)) == (0 : Int)))
            if y24 then
             q8 y23 n10 y1 y3 y6 y9 y12 y15 y18 y21 y24 v20 v21
            else
             let y25 := l7.getD n10.toNat []
             chk (decide (0 ≤ n10) && decide (n10 < l7.length) && isRow z83 y25) <|
             let y26 := t57 (asL (nthD y25 8)) (w64 (y23 + (1 : Int)))
             chk (okR zr57 zo57 y26) <|
             let y27 := asI (resC y26 0 0)
             let y28 := decide (y27 < (0 : Int))
             if y28 then
              q9 y27 n10 y1 y3 y6 y9 y12 y15 y18 y21 y24 y28 v21
             else
              let y29 := l7.getD n10.toNat []
              chk (decide (0 ≤ n10) && decide (n10 < l7.length) && isRow z83 y29) <|
              let y30 := t68 y27
              chk (okR zr68 zo68 y30) <|
              let y31 := !((asS (nthD y29 9)).toList == (asS (resC y30 0 0)).toList)
              if y31 then
               q10 y27 n10 y1 y3 y6 y9 y12 y15 y18 y21 y24 y28 y31
              else
               la32o0 t57 t68 l7 n9 q1 q2 q3 q4 q5 q6 q7 q8 q9 q10 q11 m (w64 (y27 + (1 : Int))) (w64 (n10 + (1 : Int))) (.d (.b y1)) (.d (.b y3)) (.d (.b y6)) (.d (.b y9)) (.d (.b y12)) (.d (.b y15)) (.d (.b y18)) (.d (.b y21)) (.d (.b y24)) (.d (.b y28)) (.d (.b y31))
    else
     q11 n8 n10 y1 (keepV [] v12) (keepV [] v13) (keepV [] v14) (keepV [] v15) (keepV [] v16) (keepV [] v17) (keepV [] v18) (keepV [] v19) (keepV [] v20) (keepV [] v21)
def ta32 (t57 : List (List D) → Int → Rs) (t68 : Int → Rs) (l1 : List (List D)) (n2 : Int) : Rs :=
  la32o0 t57 t68 l1 (0 : Int)
   (fun (n180 : Int) (n181 : Int) (b182 : Bool) (b183 : Bool) (v184 : SV) (v185 : SV) (v186 : SV) (v187 : SV) (v188 : SV) (v189 : SV) (v190 : SV) (v191 : SV) (v192 : SV) =>
    some ([.one (.i .i64 (-1 : Int))], []))
   (fun (n193 : Int) (n194 : Int) (b195 : Bool) (b196 : Bool) (b197 : Bool) (v198 : SV) (v199 : SV) (v200 : SV) (v201 : SV) (v202 : SV) (v203 : SV) (v204 : SV) (v205 : SV) =>
    some ([.one (.i .i64 (-1 : Int))], []))
   (fun (n206 : Int) (n207 : Int) (b208 : Bool) (b209 : Bool) (b210 : Bool) (b211 : Bool) (v212 : SV) (v213 : SV) (v214 : SV) (v215 : SV) (v216 : SV) (v217 : SV) (v218 : SV) =>
    some ([.one (.i .i64 (-1 : Int))], []))
   (fun (n219 : Int) (n220 : Int) (b221 : Bool) (b222 : Bool) (b223 : Bool) (b224 : Bool) (b225 : Bool) (v226 : SV) (v227 : SV) (v228 : SV) (v229 : SV) (v230 : SV) (v231 : SV) =>
    some ([.one (.i .i64 (-1 : Int))], []))
   (fun (n232 : Int) (n233 : Int) (b234 : Bool) (b235 : Bool) (b236 : Bool) (b237 : Bool) (b238 : Bool) (b239 : Bool) (v240 : SV) (v241 : SV) (v242 : SV) (v243 : SV) (v244 : SV) =>
    some ([.one (.i .i64 (-1 : Int))], []))
   (fun (n245 : Int) (n246 : Int) (b247 : Bool) (b248 : Bool) (b249 : Bool) (b250 : Bool) (b251 : Bool) (b252 : Bool) (b253 : Bool) (v254 : SV) (v255 : SV) (v256 : SV) (v257 : SV) =>
    some ([.one (.i .i64 (-1 : Int))], []))
   (fun (n258 : Int) (n259 : Int) (b260 : Bool) (b261 : Bool) (b262 : Bool) (b263 : Bool) (b264 : Bool) (b265 : Bool) (b266 : Bool) (b267 : Bool) (v268 : SV) (v269 : SV) (v270 : SV) =>
    some ([.one (.i .i64 (-1 : Int))], []))
   (fun (n271 : Int) (n272 : Int) (b273 : Bool) (b274 : Bool) (b275 : Bool) (b276 : Bool) (b277 : Bool) (b278 : Bool) (b279 : Bool) (b280 : Bool) (b281 : Bool) (v282 : SV) (v283 : SV) =>
    some ([.one (.i .i64 (-1 : Int))], []))
   (fun (n284 : Int) (n285 : Int) (b286 : Bool) (b287 : Bool) (b288 : Bool) (b289 : Bool) (b290 : Bool) (b291 : Bool) (b292 : Bool) (b293 : Bool) (b294 : Bool) (b295 : Bool) (v296 : SV) =>
    some ([.one (.i .i64 (-1 : Int))], []))
   (fun (n297 : Int) (n298 : Int) (b299 : Bool) (b300 : Bool) (b301 : Bool) (b302 : Bool) (b303 : Bool) (b304 : Bool) (b305 : Bool) (b306 : Bool) (b307 : Bool) (b308 : Bool) (b309 : Bool) =>
    some ([.one (.i .i64 (-1 : Int))], []))
   (fun (n310 : Int) (n311 : Int) (b312 : Bool) (v313 : SV) (v314 : SV) (v315 : SV) (v316 : SV) (v317 : SV) (v318 : SV) (v319 : SV) (v320 : SV) (v321 : SV) (v322 : SV) =>
    some ([.one (.i .i64 n310)], [])) KK n2 (0 : Int) SV.undef SV.undef SV.undef SV.undef SV.undef SV.undef SV.undef SV.undef SV.undef SV.undef SV.undef
theorem te32 : ta32 tu57 tu68 = t32 := (by rw [tu57_eq, tu68_eq] : ta32 tu57 tu68 = ta32 t57 t68).trans (by kernel_rfl)
def tw32 (vs : List Vr) : Rs := ta32 tu57 tu68 (vL vs 0) (vI vs 1)
def tp32 (vs : List Vr) : Rs := tu32 (vL vs 0) (vI vs 1)
theorem tpw32 : tp32 = tw32 := funext fun vs => by unfold tp32 tw32; rw [tu32_eq, te32]
def th32 (xs : List DV) : Bool × List DV × List (List D) := gOf zr32 zo32 (argsT A32 tp32 xs)
def ta9 (t10 : Int → Int → Int → Int → Int → Int → Int → Int → List (List D) → Int → List (List D) → List (List D) → List (List D) → Int → Rs) (t12 : Int → Int → Int → Int → Int → Int → Int → Int → List (List D) → Int → List (List D) → List (List D) → List (List D) → Rs) (t14 : Int → Int → Int → Int → Int → Int → Int → Int → List (List D) → Int → List (List D) → List (List D) → List (List D) → Int → Int → Int → Int → Int → Int → Int → Int → List (List D) → Int → List (List D) → List (List D) → List (List D) → Rs) (t18 : Int → Int → Int → Int → Int → Int → Int → Int → List (List D) → Int → List (List D) → List (List D) → List (List D) → Int → Rs) (t25 : Int → Int → Int → Int → Int → Int → Int → Int → List (List D) → Int → List (List D) → List (List D) → List (List D) → Int → Rs) (t30 : List (List D) → List (List D) → Rs) (t31 : List (List D) → Int → Rs) (t32 : List (List D) → Int → Rs) (t35 : Int → Int → Int → Int → Int → Int → Int → Int → List (List D) → Int → List (List D) → List (List D) → List (List D) → Rs) (t36 : Int → Int → Int → Int → Int → Int → Int → Int → List (List D) → Int → List (List D) → List (List D) → List (List D) → Rs) (n1 : Int) (n2 : Int) (n3 : Int) (n4 : Int) (n5 : Int) (n6 : Int) (n7 : Int) (n8 : Int) (l9 : List (List D)) (n10 : Int) (l11 : List (List D)) (l12 : List (List D)) (l13 : List (List D)) : Rs :=
  let y1 := t10 n1 n2 n3 n4 n5 n6 n7 n8 l9 n10 l11 l12 l13 (1048576 : Int)
  chk (okR zr10 zo10 y1) <|
  if decide ((asI (resC y1 0 0)) < (0 : Int)) then
   some ([.one (.b true)], [])
  else
   let y2 := t12 n1 n2 n3 n4 n5 n6 n7 n8 l9 n10 l11 l12 l13
   chk (okR zr12 zo12 y2) <|
   let y3 := t35 (asI (resC y2 0 0)) (asI (resC y2 0 1)) (asI (resC y2 0 2)) (asI (resC y2 0 3)) (asI (resC y2 0 4)) (asI (resC y2 0 5)) (asI (resC y2 0 6)) (asI (resC y2 0 7)) (asL (resC y2 0 8)) (asI (resC y2 0 9)) (asL (resC y2 0 10)) (asL (resC y2 0 11)) (asL (resC y2 0 12))
   chk (okR zr35 zo35 y3) <|
   let y4 := t12 n1 n2 n3 n4 n5 n6 n7 n8 l9 n10 l11 l12 l13
   chk (okR zr12 zo12 y4) <|
   let y5 := asI (resC y4 0 0)
   let y6 := asI (resC y4 0 1)
   let y7 := asI (resC y4 0 2)
   let y8 := asI (resC y4 0 3)
   let y9 := asI (resC y4 0 4)
   let y10 := asI (resC y4 0 5)
   let y11 := asI (resC y4 0 6)
   let y12 := asI (resC y4 0 7)
   let y13 := asL (resC y4 0 8)
   let y14 := asI (resC y4 0 9)
   let y15 := asL (resC y4 0 10)
   let y16 := asL (resC y4 0 11)
   let y17 := asL (resC y4 0 12)
   let y18 := t36 y5 y6 y7 y8 y9 y10 y11 y12 y13 y14 y15 y16 y17
   chk (okR zr36 zo36 y18) <|
   let y19 := asI (resC y18 0 0)
   let y20 := asI (resC y18 0 1)
   let y21 := asI (resC y18 0 2)
   let y22 := asI (resC y18 0 3)
   let y23 := asI (resC y18 0 4)
   let y24 := asI (resC y18 0 5)
   let y25 := asI (resC y18 0 6)
   let y26 := asI (resC y18 0 7)
   let y27 := asL (resC y18 0 8)
   let y28 := asI (resC y18 0 9)
   let y29 := asL (resC y18 0 10)
   let y30 := asL (resC y18 0 11)
   let y31 := asL (resC y18 0 12)
   let y32 := asI (resC y3 0 0)
   let y33 := asI (resC y3 0 1)
   let y34 := asI (resC y3 0 2)
   let y35 := asI (resC y3 0 3)
   let y36 := asI (resC y3 0 4)
   let y37 := asI (resC y3 0 5)
   let y38 := asI (resC y3 0 6)
   let y39 := asI (resC y3 0 7)
   let y40 := asL (resC y3 0 8)
   let y41 := asI (resC y3 0 9)
   let y42 := asL (resC y3 0 10)
   let y43 := asL (resC y3 0 11)
   let y44 := asL (resC y3 0 12)
   let y45 := t14 y19 y20 y21 y22 y23 y24 y25 y26 y27 y28 y29 y30 y31 y32 y33 y34 y35 y36 y37 y38 y39 y40 y41 y42 y43 y44
   chk (okR zr14 zo14 y45) <|
   let y46 := asL (resC y18 1 0)
   let y47 := asL (resC y3 1 0)
   let y48 := t30 y46 y47
   let y49 := !(asB (resC y45 0 0))
   chk ((okR zr30 zo30 y48) || !(!y49)) <|
   if y49 || (!(asB (resC y48 0 0))) then
    some ([.one (.b false)], [])
   else
    let y50 := t12 n1 n2 n3 n4 n5 n6 n7 n8 l9 n10 l11 l12 l13
    chk (okR zr12 zo12 y50) <|
    let y51 := t14 y5 y6 y7 y8 y9 y10 y11 y12 y13 y14 y15 y16 y17 (asI (resC y50 0 0)) (asI (resC y50 0 1)) (asI (resC y50 0 2)) (asI (resC y50 0 3)) (asI (resC y50 0 4)) (asI (resC y50 0 5)) (asI (resC y50 0 6)) (asI (resC y50 0 7)) (asL (resC y50 0 8)) (asI (resC y50 0 9)) (asL (resC y50 0 10)) (asL (resC y50 0 11)) (asL (resC y50 0 12))
    chk (okR zr14 zo14 y51) <|
    if !(asB (resC y51 0 0)) then
     some ([.one (.b false)], [])
    else
     let y52 := t18 y5 y6 y7 y8 y9 y10 y11 y12 y13 y14 y15 y16 y17 (1 : Int)
     chk (okR zr18 zo18 y52) <|
     let y53 := t14 y19 y20 y21 y22 y23 y24 y25 y26 y27 y28 y29 y30 y31 y32 y33 y34 y35 y36 y37 y38 y39 y40 y41 y42 y43 y44
     let y54 := decide ((asI (resC y52 0 0)) < (0 : Int))
     chk ((okR zr14 zo14 y53) || !(!y54)) <|
     let y55 := t30 y46 y47
     let y56 := y54 || (!(asB (resC y53 0 0)))
     chk ((okR zr30 zo30 y55) || !(!y56)) <|
     if y56 || (!(asB (resC y55 0 0))) then
      some ([.one (.b false)], [])
     else
      let y57 := t18 y19 y20 y21 y22 y23 y24 y25 y26 y27 y28 y29 y30 y31 (1 : Int)
      chk (okR zr18 zo18 y57) <|
      let y58 := t31 y46 (asI (resC y57 0 0))
      chk (okR zr31 zo31 y58) <|
      let y59 := asL (outC y57 0 8)
      let y60 := asL (outC y57 0 10)
      let y61 := asL (outC y57 0 11)
      let y62 := asL (outC y57 0 12)
      let y63 := t25 y19 y20 y21 y22 y23 y24 y25 y26 y59 y28 y60 y61 y62 (1 : Int)
      chk (okR zr25 zo25 y63) <|
      let y64 := asI (resC y63 0 0)
      if decide (y64 < (0 : Int)) then
       some ([.one (.b false)], [])
      else
       let y65 := asL (outC y58 0 0)
       let y66 := t32 y65 y64
       chk (okR zr32 zo32 y66) <|
       let y67 := asI (resC y66 0 0)
       if decide (y67 < (0 : Int)) then
        some ([.one (.b false)], [])
       else
        let y68 := asI (resC y58 0 0)
        if y67 != y68 then
         some ([.one (.b false)], [])
        else
         let y69 := t12 n1 n2 n3 n4 n5 n6 n7 n8 l9 n10 l11 l12 l13
         chk (okR zr12 zo12 y69) <|
         let y70 := t36 (asI (resC y69 0 0)) (asI (resC y69 0 1)) (asI (resC y69 0 2)) (asI (resC y69 0 3)) (asI (resC y69 0 4)) (asI (resC y69 0 5)) (asI (resC y69 0 6)) (asI (resC y69 0 7)) (asL (resC y69 0 8)) (asI (resC y69 0 9)) (asL (resC y69 0 10)) (asL (resC y69 0 11)) (asL (resC y69 0 12))
         chk (okR zr36 zo36 y70) <|
         let y71 := t14 (asI (resC y70 0 0)) (asI (resC y70 0 1)) (asI (resC y70 0 2)) (asI (resC y70 0 3)) (asI (resC y70 0 4)) (asI (resC y70 0 5)) (asI (resC y70 0 6)) (asI (resC y70 0 7)) (asL (resC y70 0 8)) (asI (resC y70 0 9)) (asL (resC y70 0 10)) (asL (resC y70 0 11)) (asL (resC y70 0 12)) y32 y33 y34 y35 y36 y37 y38 y39 y40 y41 y42 y43 y44
         chk (okR zr14 zo14 y71) <|
         let y72 := t30 (asL (resC y70 1 0)) y47
         let y73 := !(asB (resC y71 0 0))
         chk ((okR zr30 zo30 y72) || !(!y73)) <|
         if y73 || (!(asB (resC y72 0 0))) then
          some ([.one (.b false)], [])
         else
          let y74 := t25 y19 y20 y21 y22 y23 y24 y25 y26 y59 y28 y60 y61 y62 (1 : Int)
          chk (okR zr25 zo25 y74) <|
          let y75 := asI (resC y74 0 0)
          if decide (y75 < (0 : Int)) then
           some ([.one (.b false)], [])
          else
           let y76 := t32 y65 y75
           chk (okR zr32 zo32 y76) <|
           let y77 := asI (resC y76 0 0)
           if decide (y77 < (0 : Int)) then
            some ([.one (.b false)], [])
           else
            if y77 != y68 then
             some ([.one (.b false)], [])
            else
             some ([.one (.b true)], [])
theorem te9 : ta9 tu10 tu12 tu14 tu18 tu25 tu30 tu31 tu32 tu35 tu36 = t9 := (by rw [tu10_eq, tu12_eq, tu14_eq, tu18_eq, tu25_eq, tu30_eq, tu31_eq, tu32_eq, tu35_eq, tu36_eq] : ta9 tu10 tu12 tu14 tu18 tu25 tu30 tu31 tu32 tu35 tu36 = ta9 t10 t12 t14 t18 t25 t30 t31 t32 t35 t36).trans (by kernel_rfl)
def tw9 (vs : List Vr) : Rs := ta9 tu10 tu12 tu14 tu18 tu25 tu30 tu31 tu32 tu35 tu36 (vI vs 0) (vI vs 1) (vI vs 2) (vI vs 3) (vI vs 4) (vI vs 5) (vI vs 6) (vI vs 7) (vL vs 8) (vI vs 9) (vL vs 10) (vL vs 11) (vL vs 12)
def tp9 (vs : List Vr) : Rs := tu9 (vI vs 0) (vI vs 1) (vI vs 2) (vI vs 3) (vI vs 4) (vI vs 5) (vI vs 6) (vI vs 7) (vL vs 8) (vI vs 9) (vL vs 10) (vL vs 11) (vL vs 12)
theorem tpw9 : tp9 = tw9 := funext fun vs => by unfold tp9 tw9; rw [tu9_eq, te9]
def th9 (xs : List DV) : Bool × List DV × List (List D) := gOf zr9 zo9 (argsT A9 tp9 xs)
def sg73 : Sig := ⟨[.bor, .bor], .sc [.one (.i .i64 0)], [0, 1, 2, 4, 11], []⟩
def sg37 : Sig := ⟨[.bor, .bor], .sc [.one (.i .i64 0)], [0, 1, 4, 5, 11, 15, 25], []⟩
def sg38 : Sig := ⟨[.bor, .bor], .sc [.one (.i .i64 0)], [0, 1, 4, 10], []⟩
def sg10 : Sig := ⟨[.bor, .bor], .sc [.one (.i .i64 0)], [0, 1, 2, 4, 10, 16, 22, 28], []⟩
def sg75 : Sig := ⟨[.bor], .sc [.agg [.i .i64 0, .s ⟨#[]⟩]], [0, 1, 2, 3], []⟩
def sg44 : Sig := ⟨[.bor], .fresh [[some (92, 2)]], [0, 2, 3, 4, 11], []⟩
def sg45 : Sig := ⟨[.bor], .fresh [[some (3, 1)]], [0, 2, 3, 4, 11], []⟩
def sg12 : Sig := ⟨[.bor], .fresh [[none, none, none, none, none, none, none, none, some (92, 2), none, some (3, 1), some (3, 1), some (3, 1)]], [0, 1, 2, 3], []⟩
def sg39 : Sig := ⟨[.bor, .bor, .bor], .sc [.one (.b false)], [0, 1, 2, 6], []⟩
def sg41 : Sig := ⟨[.bor, .bor], .fresh [[none, none, none, none, none, some (92, 2)]], [0, 1, 2, 4, 5, 17], [(1, [(4, 2, []), (9, 2, []), (0, 0, []), (1, 0, []), (2, 0, []), (3, 0, []), (5, 0, []), (6, 0, []), (7, 1, [0, 1, 2, 3]), (8, 0, []), (10, 1, [])])]⟩
def sg74 : Sig := ⟨[.bor, .bor], .sc [.one (.b false)], [0, 1, 4, 6], []⟩
def sg40 : Sig := ⟨[.bor], .sc [.one (.b false)], [0, 1, 2, 3, 4, 5, 68, 76, 105], []⟩
def sg42 : Sig := ⟨[.bor], .sc [.one (.i .i64 0)], [0, 1, 2], []⟩
def sg43 : Sig := ⟨[.bor, .bor], .sc [.one (.b false)], [0, 1, 4, 5, 9, 17], []⟩
def sg11 : Sig := ⟨[.bor], .sc [.one (.b false)], [0, 1, 2, 3, 4, 50, 52, 53, 86, 92, 122, 166, 217, 221, 253], [(1, [(0, 0, []), (1, 0, []), (2, 0, []), (3, 0, []), (4, 0, []), (5, 0, []), (6, 0, []), (7, 0, []), (8, 0, []), (9, 0, []), (10, 0, []), (11, 0, []), (12, 0, []), (13, 0, []), (14, 0, []), (15, 0, []), (16, 0, []), (17, 0, []), (18, 0, []), (19, 0, []), (20, 0, []), (21, 0, []), (22, 0, []), (23, 0, []), (24, 0, []), (25, 1, []), (26, 0, []), (27, 0, []), (28, 0, []), (29, 0, []), (30, 0, []), (31, 0, []), (32, 0, []), (33, 0, []), (34, 0, []), (35, 0, []), (36, 0, []), (37, 0, []), (38, 0, []), (39, 0, []), (40, 0, []), (41, 0, []), (42, 0, []), (43, 0, []), (44, 0, []), (45, 0, [])]), (10, [(0, 0, []), (1, 0, []), (2, 0, []), (3, 0, []), (4, 0, []), (5, 0, []), (6, 0, []), (7, 0, []), (8, 0, []), (9, 0, []), (10, 0, []), (11, 0, []), (12, 0, []), (13, 0, []), (14, 0, []), (15, 0, []), (16, 0, []), (17, 0, []), (18, 0, []), (19, 0, []), (20, 0, []), (21, 0, []), (22, 0, []), (23, 0, []), (24, 0, []), (25, 0, []), (26, 0, []), (27, 0, [])]), (14, [(0, 0, []), (1, 0, []), (2, 0, []), (3, 0, []), (4, 0, []), (5, 0, []), (6, 0, []), (7, 0, []), (8, 0, []), (9, 0, []), (10, 0, []), (11, 0, []), (12, 0, []), (13, 0, []), (14, 0, []), (15, 0, []), (16, 0, []), (17, 0, []), (18, 0, []), (19, 0, []), (20, 0, []), (21, 0, []), (22, 0, []), (23, 0, []), (24, 0, []), (25, 0, []), (26, 0, []), (27, 0, []), (28, 0, []), (29, 0, []), (30, 0, []), (31, 0, []), (32, 0, []), (33, 0, []), (34, 0, []), (35, 0, []), (36, 0, []), (37, 0, []), (38, 0, []), (39, 0, []), (40, 0, []), (41, 0, []), (42, 0, []), (43, 0, []), (44, 0, []), (45, 0, []), (46, 0, []), (47, 0, []), (48, 0, []), (49, 0, [])]), (19, [(0, 0, []), (1, 0, []), (2, 0, []), (3, 0, []), (4, 0, []), (5, 0, []), (6, 0, []), (7, 0, []), (8, 0, []), (9, 0, []), (10, 0, []), (11, 0, []), (12, 0, []), (13, 0, []), (14, 0, []), (15, 0, []), (16, 0, []), (17, 0, []), (18, 0, []), (19, 0, []), (20, 0, []), (21, 0, []), (22, 0, []), (23, 0, []), (24, 0, []), (25, 0, []), (26, 0, []), (27, 0, []), (28, 0, []), (29, 0, [])])]⟩
def sg61 : Sig := ⟨[.bor], .fresh [[none, none, none, none, none, none, none, none, some (92, 2), none, some (3, 1), some (3, 1), some (3, 1)]], [0, 1, 2], []⟩
def sg62 : Sig := ⟨[.bor, .bor], .sc [.one (.i .i64 0)], [0, 1, 2, 4, 8], []⟩
def sg83 : Sig := ⟨[.own [none, none, none, none, none, none, none, none, some (92, 2), none, some (3, 1), some (3, 1), some (3, 1)]], .fresh [[none, none, none, none, none, none, none, none, some (92, 2), none, some (3, 1), some (3, 1), some (3, 1)]], [0, 1, 2, 3, 4, 5, 11, 17, 26, 41], [(10, [(0, 0, []), (1, 0, []), (2, 0, []), (3, 0, []), (4, 0, []), (5, 0, []), (6, 0, []), (7, 0, []), (8, 0, []), (9, 0, []), (10, 0, []), (11, 0, []), (12, 0, [])])]⟩
def sg69 : Sig := ⟨[.own [none, none, none, none, none, none, none, none, some (92, 2), none, some (3, 1), some (3, 1), some (3, 1)], .bor], .fresh [[none, none, none, none, none, none, none, none, some (92, 2), none, some (3, 1), some (3, 1), some (3, 1)]], [0, 1, 2, 4, 13], [(3, [(0, 0, []), (1, 0, []), (2, 0, []), (3, 0, []), (4, 0, []), (5, 0, []), (6, 0, []), (7, 1, [])]), (4, [(0, 0, []), (1, 0, []), (2, 0, []), (3, 0, []), (4, 0, []), (5, 0, []), (6, 0, []), (7, 0, []), (8, 1, [])])]⟩
def sg80 : Sig := ⟨[.bor, .bor], .fresh [[none, none, none, none, none, none, none, none, some (92, 2), none]], [0, 1, 2, 4, 5, 6, 7, 16, 51], [(4, [(14, 2, []), (0, 0, []), (1, 0, []), (2, 0, []), (3, 0, []), (4, 0, []), (5, 0, []), (6, 0, []), (7, 0, []), (8, 0, []), (9, 0, []), (10, 0, []), (11, 0, []), (12, 0, []), (13, 0, []), (15, 1, [])]), (8, [(0, 0, []), (1, 0, []), (2, 0, []), (3, 0, []), (4, 0, []), (5, 0, []), (6, 0, []), (7, 0, []), (8, 0, []), (9, 0, []), (10, 0, []), (11, 1, [0, 1]), (12, 1, []), (13, 0, []), (14, 1, [])]), (1000005, [(384, 8, [92, 2])])]⟩
def sg65 : Sig := ⟨[.bor], .fresh [[some (83, 10)]], [0, 1, 2, 3, 4, 9, 15], []⟩
def sg71 : Sig := ⟨[.own [none, none, none, none, none, none, none, none, some (92, 2), none, some (3, 1), some (3, 1), some (3, 1)]], .fresh [[none, none, none, none, none, none, none, none, some (92, 2), none, some (3, 1), some (3, 1), some (3, 1)], [some (83, 10)]], [0, 1, 2, 3, 4, 18], [(9, [(0, 0, []), (1, 0, []), (2, 0, []), (3, 0, []), (4, 0, []), (5, 1, [0, 1]), (6, 1, []), (7, 0, []), (8, 1, [])]), (12, [(0, 0, []), (1, 0, []), (2, 1, [0]), (3, 1, []), (4, 0, [])])]⟩
def sg35 : Sig := ⟨[.bor], .fresh [[none, none, none, none, none, none, none, none, some (92, 2), none, some (3, 1), some (3, 1), some (3, 1)], [some (83, 10)]], [0, 1, 2, 3, 4, 5, 6, 7, 11, 23, 45, 56, 62], [(19, [(0, 0, []), (1, 0, []), (2, 0, []), (3, 0, []), (4, 0, []), (5, 0, []), (6, 0, []), (7, 0, []), (8, 0, []), (9, 0, []), (10, 0, []), (11, 0, []), (12, 0, []), (13, 1, [0]), (14, 1, []), (15, 1, [])])]⟩
def sg46 : Sig := ⟨[.bor, .bor, .bor], .sc [.one (.b false)], [0, 1, 2, 6], []⟩
def sg48 : Sig := ⟨[.rptr 13, .bor], .fresh [[none, none, none, none, none, some (92, 2)]], [0, 1, 4, 5, 24], [(1, [(14, 2, []), (0, 0, []), (1, 0, []), (2, 0, []), (3, 0, []), (4, 0, []), (5, 0, []), (6, 0, []), (7, 0, []), (8, 0, []), (9, 0, []), (10, 0, []), (11, 0, []), (12, 1, [0, 1, 2, 3, 4, 5, 6, 7]), (13, 0, []), (15, 1, [])]), (3, [(0, 0, []), (1, 0, []), (2, 0, []), (3, 0, []), (4, 0, []), (5, 0, []), (6, 0, []), (7, 0, []), (8, 0, []), (9, 0, []), (10, 0, []), (11, 1, [])])]⟩
def sg47 : Sig := ⟨[.bor], .sc [.one (.b false)], [0, 1, 2, 3, 5, 21, 48, 54, 55, 56, 57, 72], []⟩
def sg49 : Sig := ⟨[.rptr 13], .sc [.one (.i .i64 0)], [0, 2], [(1, [(0, 0, []), (1, 0, []), (2, 0, []), (3, 0, []), (4, 0, []), (5, 0, []), (6, 0, []), (7, 0, []), (8, 0, []), (9, 0, []), (10, 0, [])])]⟩
def sg88 : Sig := ⟨[.bor, .bor], .sc [.one (.i .i64 0)], [0, 1, 4, 5, 7, 8, 9, 16], []⟩
def sg76 : Sig := ⟨[.bor, .bor], .sc [.one (.b false)], [0, 1, 4], []⟩
def sg77 : Sig := ⟨[.rptr 13, .bor], .sc [.one (.b false)], [0, 1, 4], []⟩
def sg50 : Sig := ⟨[.rptr 13], .sc [.one (.b false)], [0, 2, 3, 4, 8, 9, 10, 11, 38], [(7, [(0, 0, []), (1, 0, []), (2, 0, []), (3, 0, []), (4, 0, []), (5, 0, []), (6, 0, []), (7, 0, []), (8, 0, []), (9, 0, []), (10, 0, []), (11, 0, []), (12, 0, []), (13, 0, []), (14, 0, []), (15, 0, []), (16, 0, []), (17, 0, []), (18, 0, []), (19, 0, []), (20, 0, []), (21, 0, []), (22, 0, []), (23, 0, []), (24, 0, []), (25, 0, []), (26, 0, []), (27, 0, []), (28, 0, []), (29, 0, []), (30, 0, []), (31, 0, []), (32, 0, []), (33, 0, []), (34, 0, []), (35, 0, []), (36, 0, []), (37, 0, []), (38, 0, []), (39, 0, []), (40, 0, []), (41, 0, []), (42, 0, []), (43, 0, []), (44, 0, []), (45, 0, []), (46, 0, []), (47, 0, []), (48, 0, []), (49, 0, []), (50, 0, []), (51, 0, []), (52, 0, []), (53, 0, []), (54, 0, []), (55, 0, []), (56, 0, []), (57, 0, []), (58, 0, [])])]⟩
def sg51 : Sig := ⟨[.rptr 13], .sc [.one (.b false)], [0, 2, 3, 4, 63, 67, 68, 69, 70, 99], [(1, [(0, 0, []), (1, 0, []), (2, 0, []), (3, 0, []), (4, 0, []), (5, 0, []), (6, 0, []), (7, 0, []), (8, 0, []), (9, 0, []), (10, 0, []), (11, 0, []), (12, 0, []), (13, 0, []), (14, 0, []), (15, 0, []), (16, 0, []), (17, 0, []), (18, 0, []), (19, 0, []), (20, 0, []), (21, 0, []), (22, 0, []), (23, 0, []), (24, 0, []), (25, 0, []), (26, 0, []), (27, 0, []), (28, 0, []), (29, 0, []), (30, 0, []), (31, 0, []), (32, 0, []), (33, 0, []), (34, 0, []), (35, 0, []), (36, 0, []), (37, 0, []), (38, 0, []), (39, 0, []), (40, 0, []), (41, 0, []), (42, 0, []), (43, 0, []), (44, 0, []), (45, 0, []), (46, 0, []), (47, 0, []), (48, 0, []), (49, 0, []), (50, 0, []), (51, 0, []), (52, 0, []), (53, 0, []), (54, 0, []), (55, 0, []), (56, 0, []), (57, 0, []), (58, 0, [])]), (6, [(0, 0, []), (1, 0, []), (2, 0, []), (3, 0, []), (4, 0, []), (5, 0, []), (6, 0, []), (7, 0, []), (8, 0, []), (9, 0, []), (10, 0, []), (11, 0, []), (12, 0, []), (13, 0, []), (14, 0, []), (15, 0, []), (16, 0, []), (17, 0, []), (18, 0, []), (19, 0, []), (20, 0, []), (21, 0, []), (22, 0, []), (23, 0, []), (24, 0, []), (25, 0, [])]), (9, [(0, 0, []), (1, 0, []), (2, 0, []), (3, 0, []), (4, 0, []), (5, 0, []), (6, 0, []), (7, 0, []), (8, 0, []), (9, 0, []), (10, 0, []), (11, 0, []), (12, 0, []), (13, 0, [])])]⟩
def sg13 : Sig := ⟨[.bor], .sc [.one (.b false)], [0, 1, 2, 51, 53, 54, 83, 86], [(1, [(0, 0, []), (1, 0, []), (2, 0, []), (3, 0, []), (4, 0, []), (5, 0, []), (6, 0, []), (7, 0, []), (8, 0, []), (9, 0, []), (10, 0, []), (11, 0, []), (12, 0, []), (13, 0, []), (14, 0, []), (15, 0, []), (16, 0, []), (17, 0, []), (18, 0, []), (19, 0, []), (20, 0, []), (21, 0, []), (22, 0, []), (23, 0, []), (24, 0, []), (25, 0, []), (26, 0, []), (27, 0, []), (28, 0, []), (29, 0, []), (30, 0, []), (31, 0, []), (32, 0, []), (33, 0, []), (34, 0, []), (35, 0, []), (36, 1, []), (37, 0, []), (38, 0, []), (39, 0, []), (40, 0, []), (41, 0, []), (42, 0, []), (43, 0, []), (44, 0, []), (45, 0, []), (46, 0, []), (47, 0, []), (48, 0, [])])]⟩
def sg79 : Sig := ⟨[.bor], .fresh [[some (3, 1)]], [0, 2], []⟩
def sg63 : Sig := ⟨[.bor], .fresh [[none, none, none, none, none, none, none, none, some (92, 2), none, some (3, 1), some (3, 1), some (3, 1)]], [0, 1, 2], []⟩
def sg84 : Sig := ⟨[.rptr 13], .sc [.one (.b false)], [0, 2], []⟩
def sg85 : Sig := ⟨[.ptr [none, none, none, none, none, none, none, none, some (92, 2), none, some (3, 1), some (3, 1), some (3, 1)]], .sc [], [0], [(0, [(0, 0, []), (1, 0, []), (2, 0, []), (3, 0, []), (4, 0, []), (5, 0, []), (6, 0, []), (7, 0, []), (8, 0, []), (9, 0, []), (10, 0, []), (11, 1, [])]), (1, [(0, 0, []), (1, 0, []), (2, 0, []), (3, 0, []), (4, 0, []), (5, 0, []), (6, 0, []), (7, 0, []), (8, 0, []), (9, 0, []), (10, 0, []), (11, 0, []), (12, 1, [])])]⟩
def sg64 : Sig := ⟨[.rptr 13, .bor], .sc [.one (.i .i64 0)], [0, 1, 4, 10], [(3, [(0, 0, []), (1, 0, []), (2, 0, []), (3, 0, []), (4, 0, []), (5, 0, []), (6, 0, []), (7, 0, []), (8, 0, []), (9, 0, []), (10, 0, []), (11, 0, []), (12, 0, []), (13, 0, []), (14, 0, [])])]⟩
def sg86 : Sig := ⟨[.ptr [none, none, none, none, none, none, none, none, some (92, 2), none, some (3, 1), some (3, 1), some (3, 1)]], .sc [], [0, 2, 3, 5, 13, 19, 20, 21, 22, 27, 43], [(10, [(0, 0, []), (1, 0, []), (2, 0, []), (3, 0, []), (4, 0, []), (5, 0, []), (6, 0, []), (7, 0, []), (8, 0, []), (9, 0, []), (10, 0, []), (11, 0, []), (12, 0, [])])]⟩
def sg81 : Sig := ⟨[.rptr 13], .fresh [[some (3, 1)]], [0, 2, 3, 4, 9, 10, 11, 18], [(1000006, [(1344, 0, [])])]⟩
def sg82 : Sig := ⟨[.rptr 13, .bor], .fresh [[none, none, none, none, none, none, none, none, some (92, 2), none]], [0, 1, 4, 5, 6, 7, 30], [(1, [(10, 2, []), (0, 0, []), (1, 0, []), (2, 0, []), (3, 0, []), (4, 0, []), (5, 0, []), (6, 0, []), (7, 0, []), (8, 0, []), (9, 0, []), (11, 1, [])]), (12, [(0, 0, []), (1, 0, []), (2, 0, []), (3, 0, []), (4, 0, []), (5, 0, []), (6, 0, []), (7, 0, []), (8, 0, []), (9, 0, []), (10, 0, []), (11, 0, []), (12, 0, [])])]⟩
def sg66 : Sig := ⟨[.rptr 13], .fresh [[some (83, 10)]], [0, 2, 3, 5, 8, 9, 10, 11], []⟩
def sg87 : Sig := ⟨[.ptr [none, none, none, none, none, none, none, none, some (92, 2), none, some (3, 1), some (3, 1), some (3, 1)]], .fresh [[some (83, 10)]], [0, 2, 3, 37, 38, 39, 52], [(9, [(0, 0, []), (1, 0, []), (2, 0, []), (3, 0, []), (4, 0, []), (5, 0, []), (6, 0, []), (7, 0, []), (8, 0, []), (9, 1, [])]), (12, [(0, 0, []), (1, 0, []), (2, 0, []), (3, 0, []), (4, 0, []), (5, 0, []), (6, 0, []), (7, 0, []), (8, 0, []), (9, 0, []), (10, 1, [0, 1, 2, 3, 4]), (11, 1, [0]), (12, 0, []), (13, 0, []), (14, 1, [])]), (1000011, [(11, 0, []), (12, 0, []), (13, 0, [])]), (1000012, [(11, 0, []), (4032, 0, [])])]⟩
def sg72 : Sig := ⟨[.ptr [none, none, none, none, none, none, none, none, some (92, 2), none, some (3, 1), some (3, 1), some (3, 1)]], .fresh [[some (83, 10)]], [0, 2, 3, 5, 17, 47, 52, 53, 54, 55], [(14, [(0, 0, []), (1, 0, []), (2, 0, []), (3, 0, []), (4, 0, []), (5, 0, []), (6, 0, []), (7, 0, []), (8, 0, []), (9, 0, []), (10, 0, []), (11, 0, []), (12, 0, []), (13, 0, []), (14, 0, []), (15, 0, []), (16, 0, []), (17, 1, [0]), (18, 1, []), (19, 1, [])])]⟩
def sg36 : Sig := ⟨[.bor], .fresh [[none, none, none, none, none, none, none, none, some (92, 2), none, some (3, 1), some (3, 1), some (3, 1)], [some (83, 10)]], [0, 1, 2, 3, 4, 5, 8], []⟩
def sg78 : Sig := ⟨[.bor, .bor], .sc [.one (.b false)], [0, 1, 2, 3, 4, 9, 14], []⟩
def sg52 : Sig := ⟨[.bor, .bor], .sc [.one (.b false)], [0, 1, 4, 5, 10, 14, 26], [(6, [(0, 0, []), (1, 0, []), (2, 0, []), (3, 0, []), (4, 0, []), (5, 0, []), (6, 0, []), (7, 0, []), (8, 0, []), (9, 0, [])])]⟩
def sg53 : Sig := ⟨[.bor, .bor], .sc [.one (.b false)], [0, 1, 4, 5, 10, 14, 25], [(6, [(0, 0, []), (1, 0, []), (2, 0, []), (3, 0, []), (4, 0, []), (5, 0, []), (6, 0, []), (7, 0, []), (8, 0, [])])]⟩
def sg14 : Sig := ⟨[.bor, .bor], .sc [.one (.b false)], [0, 1, 2, 3, 4, 9, 14, 19, 24, 29, 34, 39, 44, 50, 55, 61, 67, 73], []⟩
def sg67 : Sig := ⟨[.bor, .bor], .sc [.one (.b false)], [0, 1, 2, 3, 4, 9, 14, 19, 24, 29, 34, 39, 44, 50, 55], []⟩
def sg30 : Sig := ⟨[.bor, .bor], .sc [.one (.b false)], [0, 1, 4, 5, 10, 14, 26], [(6, [(0, 0, []), (1, 0, []), (2, 0, []), (3, 0, []), (4, 0, []), (5, 0, []), (6, 0, []), (7, 0, []), (8, 0, []), (9, 0, [])])]⟩
def sg68 : Sig := ⟨[.bor], .sc [.one (.s ⟨#[]⟩)], [0, 2, 3, 5, 7], []⟩
def sg55 : Sig := ⟨[.io [some (999999999, 2)], .bor], .sc [.one (.i .i64 0)], [0, 1, 4, 5, 9], []⟩
def sg56 : Sig := ⟨[.io [some (999999999, 1)], .bor], .sc [.one (.i .i64 0)], [0, 1, 4, 5, 9], []⟩
def sg18 : Sig := ⟨[.io [none, none, none, none, none, none, none, none, some (999999999, 2), none, some (999999999, 1), some (999999999, 1), some (999999999, 1)], .bor], .sc [.one (.i .i64 0)], [0, 1, 2, 4], []⟩
def sg31 : Sig := ⟨[.io [some (999999999, 10)], .bor], .sc [.one (.i .i64 0)], [0, 1, 4, 5, 9], []⟩
def sg57 : Sig := ⟨[.bor, .bor], .sc [.one (.i .i64 0)], [0, 1, 4, 5, 9, 18, 28], [(7, [(0, 0, []), (1, 0, []), (2, 0, []), (3, 0, []), (4, 0, []), (5, 0, []), (6, 0, []), (7, 0, [])])]⟩
def sg60 : Sig := ⟨[.bor, .bor], .sc [.one (.i .i64 0)], [0, 1, 4, 5, 9, 17], []⟩
def sg25 : Sig := ⟨[.bor, .bor], .sc [.one (.i .i64 0)], [0, 1, 2, 4, 10, 16, 22, 28], []⟩
def sg32 : Sig := ⟨[.bor, .bor], .sc [.one (.i .i64 0)], [0, 1, 4, 5, 9, 18, 27, 36, 45, 54, 63, 72, 83, 94, 102], [(31, [(0, 0, []), (1, 0, []), (2, 0, []), (3, 0, []), (4, 0, []), (5, 0, []), (6, 0, []), (7, 0, [])])]⟩
def sg9 : Sig := ⟨[.bor], .sc [.one (.b false)], [0, 1, 2, 3, 4, 5, 6, 7, 8, 9, 10, 11, 12, 13, 18, 41, 46, 63, 74, 79, 82, 98, 103, 108, 111], [(10, [(0, 0, []), (1, 0, []), (2, 1, [0]), (3, 0, []), (4, 0, [])])]⟩
def sig : Nat → Sig := lkF ⟨[], .fresh [], [], []⟩ [(73, sg73), (37, sg37), (38, sg38), (10, sg10), (75, sg75), (44, sg44), (45, sg45), (12, sg12), (39, sg39), (41, sg41), (74, sg74), (40, sg40), (42, sg42), (43, sg43), (11, sg11), (61, sg61), (62, sg62), (83, sg83), (69, sg69), (80, sg80), (65, sg65), (71, sg71), (35, sg35), (46, sg46), (48, sg48), (47, sg47), (49, sg49), (88, sg88), (76, sg76), (77, sg77), (50, sg50), (51, sg51), (13, sg13), (79, sg79), (63, sg63), (84, sg84), (85, sg85), (64, sg64), (86, sg86), (81, sg81), (82, sg82), (66, sg66), (87, sg87), (72, sg72), (36, sg36), (78, sg78), (52, sg52), (53, sg53), (14, sg14), (67, sg67), (30, sg30), (68, sg68), (55, sg55), (56, sg56), (18, sg18), (31, sg31), (57, sg57), (60, sg60), (25, sg25), (32, sg32), (9, sg9)]
def dep : Nat → Nat := lkF 0 [(73, 1), (37, 2), (38, 1), (10, 3), (75, 1), (44, 2), (45, 1), (12, 3), (39, 1), (41, 1), (74, 2), (40, 3), (42, 1), (43, 1), (11, 4), (61, 1), (62, 1), (83, 2), (69, 3), (80, 2), (65, 3), (71, 4), (35, 5), (46, 1), (48, 1), (47, 2), (49, 1), (88, 1), (76, 2), (77, 1), (50, 3), (51, 2), (13, 4), (79, 1), (63, 2), (84, 2), (85, 2), (64, 1), (86, 2), (81, 1), (82, 2), (66, 3), (87, 4), (72, 5), (36, 6), (78, 1), (52, 2), (53, 1), (14, 3), (67, 3), (30, 4), (68, 1), (55, 2), (56, 1), (18, 3), (31, 3), (57, 2), (60, 1), (25, 3), (32, 3), (9, 7)]
def gT : List (Nat × (List DV → Bool × List DV × List (List D))) := [(73, th73), (37, th37), (38, th38), (10, th10), (75, th75), (44, th44), (45, th45), (12, th12), (39, th39), (41, th41), (74, th74), (40, th40), (42, th42), (43, th43), (11, th11), (61, th61), (62, th62), (83, th83), (69, th69), (80, th80), (65, th65), (71, th71), (35, th35), (46, th46), (48, th48), (47, th47), (49, th49), (88, th88), (76, th76), (77, th77), (50, th50), (51, th51), (13, th13), (79, th79), (63, th63), (84, th84), (85, th85), (64, th64), (86, th86), (81, th81), (82, th82), (66, th66), (87, th87), (72, th72), (36, th36), (78, th78), (52, th52), (53, th53), (14, th14), (67, th67), (30, th30), (68, th68), (55, th55), (56, th56), (18, th18), (31, th31), (57, th57), (60, th60), (25, th25), (32, th32), (9, th9)]
def G : Nat → List DV → Bool × List DV × List (List D) := lkF (fun _ => (false, [], [])) gT
noncomputable def C73 : Ctx := ⟨Try.prog, sig, Gd G dep (dep 73), (sig 73).keep, (sig 73).ord⟩
noncomputable def c73 : Code := Try.f73.body.getD .skip
def ST73 : List (Nat × (St → Cont (List DV × List (List D)) → Rs)) := []
theorem r73 : ∀ vs, tw73 vs = bodyK C73 (lkS ST73) Try.f73 (sig 73) c73 (fillAs A73 0 vs) := fun vs => by kernel_rfl
theorem ok73 : ∀ xs q, opt (th73 xs) = some q → evalBody Try.prog sig (Gd G dep (dep 73)) KK 73 xs = some q := fun xs q h => body_ok Try.func73 (c := c73) rfl A73 tw73 (sums_of (C := C73) (t := ST73) trivial) r73 (by rw [← tpw73]; exact opt_gOf h)
noncomputable def C37 : Ctx := ⟨Try.prog, sig, Gd G dep (dep 37), (sig 37).keep, (sig 37).ord⟩
noncomputable def c37 : Code := Try.f37.body.getD .skip
def T37o1 : TSt := ⟨[.d (.l), .d (.i .i64), .d (.i .i64), .d (.i .i64), .d (.b), .any, .any], []⟩
def X37o1e1 : TSt := ⟨[.d (.l), .d (.i .i64), .d (.i .i64), .d (.i .i64), .d (.b), .d (.b), .d (.b)], []⟩
def X37o1e2 : TSt := ⟨[.d (.l), .d (.i .i64), .d (.i .i64), .d (.i .i64), .d (.b), .d (.b), .any], []⟩
def L37o1 (m : Nat) (vs : List Vr) (K : Cont (List DV × List (List D))) : Rs := la37o1 tu73 (vL vs 0) (vI vs 2) (vB vs 4) (fun n22 n23 b24 b25 => K .ret (fillS X37o1e1 [.l (vL vs 0), .i (n22), .i ((-1 : Int)), .i (n23), .b (vB vs 4), .b (b24), .b (b25)])) (fun n26 n27 b28 v29 => K (.exit 0) (fillS X37o1e2 [.l (vL vs 0), .i (n26), .i (vI vs 2), .i (n27), .b (vB vs 4), .b (b28), .v (v29)])) m (vI vs 1) (vI vs 3) (vV vs 5) (vV vs 6)
def ST37 : List (Nat × (St → Cont (List DV × List (List D)) → Rs)) := [(1, sumT T37o1 (L37o1 KK))]
noncomputable def b37o1 : Code := match nodeAt c37 1 with | some (.loop a) => a | _ => .skip
theorem q37o1 : ∀ m vs K, L37o1 (m + 1) vs K = denK C37 (lkS ST37) b37o1 2 (fillS T37o1 vs) (loopK T37o1 (L37o1 m) K) := fun m vs K => by kernel_rfl
theorem o37o1 : SumOk C37 KK (sumT T37o1 (L37o1 KK)) (.loop b37o1) := loop_ok T37o1 L37o1 (sums_of (t := ST37) ⟨fun _ _ h => absurd h (by decide), trivial⟩) (fun _ _ => rfl) q37o1
theorem r37 : ∀ vs, tw37 vs = bodyK C37 (lkS ST37) Try.f37 (sig 37) c37 (fillAs A37 0 vs) := fun vs => by kernel_rfl
theorem ok37 : ∀ xs q, opt (th37 xs) = some q → evalBody Try.prog sig (Gd G dep (dep 37)) KK 37 xs = some q := fun xs q h => body_ok Try.func37 (c := c37) rfl A37 tw37 (sums_of (C := C37) (t := ST37) ⟨sum_in (c' := .loop b37o1) (by kernel_rfl) (o37o1), trivial⟩) r37 (by rw [← tpw37]; exact opt_gOf h)
noncomputable def C38 : Ctx := ⟨Try.prog, sig, Gd G dep (dep 38), (sig 38).keep, (sig 38).ord⟩
noncomputable def c38 : Code := Try.f38.body.getD .skip
def ST38 : List (Nat × (St → Cont (List DV × List (List D)) → Rs)) := []
theorem r38 : ∀ vs, tw38 vs = bodyK C38 (lkS ST38) Try.f38 (sig 38) c38 (fillAs A38 0 vs) := fun vs => by kernel_rfl
theorem ok38 : ∀ xs q, opt (th38 xs) = some q → evalBody Try.prog sig (Gd G dep (dep 38)) KK 38 xs = some q := fun xs q h => body_ok Try.func38 (c := c38) rfl A38 tw38 (sums_of (C := C38) (t := ST38) trivial) r38 (by rw [← tpw38]; exact opt_gOf h)
noncomputable def C10 : Ctx := ⟨Try.prog, sig, Gd G dep (dep 10), (sig 10).keep, (sig 10).ord⟩
noncomputable def c10 : Code := Try.f10.body.getD .skip
def ST10 : List (Nat × (St → Cont (List DV × List (List D)) → Rs)) := []
theorem r10 : ∀ vs, tw10 vs = bodyK C10 (lkS ST10) Try.f10 (sig 10) c10 (fillAs A10 0 vs) := fun vs => by kernel_rfl
theorem ok10 : ∀ xs q, opt (th10 xs) = some q → evalBody Try.prog sig (Gd G dep (dep 10)) KK 10 xs = some q := fun xs q h => body_ok Try.func10 (c := c10) rfl A10 tw10 (sums_of (C := C10) (t := ST10) trivial) r10 (by rw [← tpw10]; exact opt_gOf h)
noncomputable def C75 : Ctx := ⟨Try.prog, sig, Gd G dep (dep 75), (sig 75).keep, (sig 75).ord⟩
noncomputable def c75 : Code := Try.f75.body.getD .skip
def ST75 : List (Nat × (St → Cont (List DV × List (List D)) → Rs)) := []
theorem r75 : ∀ vs, tw75 vs = bodyK C75 (lkS ST75) Try.f75 (sig 75) c75 (fillAs A75 0 vs) := fun vs => by kernel_rfl
theorem ok75 : ∀ xs q, opt (th75 xs) = some q → evalBody Try.prog sig (Gd G dep (dep 75)) KK 75 xs = some q := fun xs q h => body_ok Try.func75 (c := c75) rfl A75 tw75 (sums_of (C := C75) (t := ST75) trivial) r75 (by rw [← tpw75]; exact opt_gOf h)
noncomputable def C44 : Ctx := ⟨Try.prog, sig, Gd G dep (dep 44), (sig 44).keep, (sig 44).ord⟩
noncomputable def c44 : Code := Try.f44.body.getD .skip
def T44o0 : TSt := ⟨[.d (.l), .nils, .own 448, .d (.i .i64), .any], [(448, .row 92 2)]⟩
def X44o0e1 : TSt := ⟨[.d (.l), .nils, .own 448, .d (.i .i64), .d (.b)], [(448, .row 92 2)]⟩
def L44o0 (m : Nat) (vs : List Vr) (K : Cont (List DV × List (List D))) : Rs := la44o0 tu75 (vL vs 0) (fun n13 b14 l15 => K (.exit 0) (fillS X44o0e1 [.l (vL vs 0), .i (n13), .b (b14), .l (l15)])) m (vI vs 1) (vV vs 2) (vL vs 3)
def ST44 : List (Nat × (St → Cont (List DV × List (List D)) → Rs)) := [(0, sumT T44o0 (L44o0 KK))]
noncomputable def b44o0 : Code := match nodeAt c44 0 with | some (.loop a) => a | _ => .skip
theorem q44o0 : ∀ m vs K, L44o0 (m + 1) vs K = denK C44 (lkS ST44) b44o0 1 (fillS T44o0 vs) (loopK T44o0 (L44o0 m) K) := fun m vs K => by kernel_rfl
theorem o44o0 : SumOk C44 KK (sumT T44o0 (L44o0 KK)) (.loop b44o0) := loop_ok T44o0 L44o0 (sums_of (t := ST44) ⟨fun _ _ h => absurd h (by decide), trivial⟩) (fun _ _ => rfl) q44o0
theorem r44 : ∀ vs, tw44 vs = bodyK C44 (lkS ST44) Try.f44 (sig 44) c44 (fillAs A44 0 vs) := fun vs => by kernel_rfl
theorem ok44 : ∀ xs q, opt (th44 xs) = some q → evalBody Try.prog sig (Gd G dep (dep 44)) KK 44 xs = some q := fun xs q h => body_ok Try.func44 (c := c44) rfl A44 tw44 (sums_of (C := C44) (t := ST44) ⟨sum_in (c' := .loop b44o0) (by kernel_rfl) (o44o0), trivial⟩) r44 (by rw [← tpw44]; exact opt_gOf h)
noncomputable def C45 : Ctx := ⟨Try.prog, sig, Gd G dep (dep 45), (sig 45).keep, (sig 45).ord⟩
noncomputable def c45 : Code := Try.f45.body.getD .skip
def T45o0 : TSt := ⟨[.d (.l), .nils, .own 448, .d (.i .i64), .any], [(448, .row 3 1)]⟩
def X45o0e1 : TSt := ⟨[.d (.l), .nils, .own 448, .d (.i .i64), .d (.b)], [(448, .row 3 1)]⟩
def L45o0 (m : Nat) (vs : List Vr) (K : Cont (List DV × List (List D))) : Rs := l45o0 (vL vs 0) (fun n13 b14 l15 => K (.exit 0) (fillS X45o0e1 [.l (vL vs 0), .i (n13), .b (b14), .l (l15)])) m (vI vs 1) (vV vs 2) (vL vs 3)
def ST45 : List (Nat × (St → Cont (List DV × List (List D)) → Rs)) := [(0, sumT T45o0 (L45o0 KK))]
noncomputable def b45o0 : Code := match nodeAt c45 0 with | some (.loop a) => a | _ => .skip
theorem q45o0 : ∀ m vs K, L45o0 (m + 1) vs K = denK C45 (lkS ST45) b45o0 1 (fillS T45o0 vs) (loopK T45o0 (L45o0 m) K) := fun m vs K => by kernel_rfl
theorem o45o0 : SumOk C45 KK (sumT T45o0 (L45o0 KK)) (.loop b45o0) := loop_ok T45o0 L45o0 (sums_of (t := ST45) ⟨fun _ _ h => absurd h (by decide), trivial⟩) (fun _ _ => rfl) q45o0
theorem r45 : ∀ vs, tw45 vs = bodyK C45 (lkS ST45) Try.f45 (sig 45) c45 (fillAs A45 0 vs) := fun vs => by kernel_rfl
theorem ok45 : ∀ xs q, opt (th45 xs) = some q → evalBody Try.prog sig (Gd G dep (dep 45)) KK 45 xs = some q := fun xs q h => body_ok Try.func45 (c := c45) rfl A45 tw45 (sums_of (C := C45) (t := ST45) ⟨sum_in (c' := .loop b45o0) (by kernel_rfl) (o45o0), trivial⟩) r45 (by rw [← tpw45]; exact opt_gOf h)
noncomputable def C12 : Ctx := ⟨Try.prog, sig, Gd G dep (dep 12), (sig 12).keep, (sig 12).ord⟩
noncomputable def c12 : Code := Try.f12.body.getD .skip
def ST12 : List (Nat × (St → Cont (List DV × List (List D)) → Rs)) := []
theorem r12 : ∀ vs, tw12 vs = bodyK C12 (lkS ST12) Try.f12 (sig 12) c12 (fillAs A12 0 vs) := fun vs => by kernel_rfl
theorem ok12 : ∀ xs q, opt (th12 xs) = some q → evalBody Try.prog sig (Gd G dep (dep 12)) KK 12 xs = some q := fun xs q h => body_ok Try.func12 (c := c12) rfl A12 tw12 (sums_of (C := C12) (t := ST12) trivial) r12 (by rw [← tpw12]; exact opt_gOf h)
noncomputable def C39 : Ctx := ⟨Try.prog, sig, Gd G dep (dep 39), (sig 39).keep, (sig 39).ord⟩
noncomputable def c39 : Code := Try.f39.body.getD .skip
def ST39 : List (Nat × (St → Cont (List DV × List (List D)) → Rs)) := []
theorem r39 : ∀ vs, tw39 vs = bodyK C39 (lkS ST39) Try.f39 (sig 39) c39 (fillAs A39 0 vs) := fun vs => by kernel_rfl
theorem ok39 : ∀ xs q, opt (th39 xs) = some q → evalBody Try.prog sig (Gd G dep (dep 39)) KK 39 xs = some q := fun xs q h => body_ok Try.func39 (c := c39) rfl A39 tw39 (sums_of (C := C39) (t := ST39) trivial) r39 (by rw [← tpw39]; exact opt_gOf h)
noncomputable def C41 : Ctx := ⟨Try.prog, sig, Gd G dep (dep 41), (sig 41).keep, (sig 41).ord⟩
noncomputable def c41 : Code := Try.f41.body.getD .skip
def ST41 : List (Nat × (St → Cont (List DV × List (List D)) → Rs)) := []
theorem r41 : ∀ vs, tw41 vs = bodyK C41 (lkS ST41) Try.f41 (sig 41) c41 (fillAs A41 0 vs) := fun vs => by kernel_rfl
theorem ok41 : ∀ xs q, opt (th41 xs) = some q → evalBody Try.prog sig (Gd G dep (dep 41)) KK 41 xs = some q := fun xs q h => body_ok Try.func41 (c := c41) rfl A41 tw41 (sums_of (C := C41) (t := ST41) trivial) r41 (by rw [← tpw41]; exact opt_gOf h)
noncomputable def C74 : Ctx := ⟨Try.prog, sig, Gd G dep (dep 74), (sig 74).keep, (sig 74).ord⟩
noncomputable def c74 : Code := Try.f74.body.getD .skip
def ST74 : List (Nat × (St → Cont (List DV × List (List D)) → Rs)) := []
theorem r74 : ∀ vs, tw74 vs = bodyK C74 (lkS ST74) Try.f74 (sig 74) c74 (fillAs A74 0 vs) := fun vs => by kernel_rfl
theorem ok74 : ∀ xs q, opt (th74 xs) = some q → evalBody Try.prog sig (Gd G dep (dep 74)) KK 74 xs = some q := fun xs q h => body_ok Try.func74 (c := c74) rfl A74 tw74 (sums_of (C := C74) (t := ST74) trivial) r74 (by rw [← tpw74]; exact opt_gOf h)
noncomputable def C40 : Ctx := ⟨Try.prog, sig, Gd G dep (dep 40), (sig 40).keep, (sig 40).ord⟩
noncomputable def c40 : Code := Try.f40.body.getD .skip
def T40o1 : TSt := ⟨[.agg [.d (.i .i64), .d (.i .i64), .d (.i .i64), .d (.i .i64), .d (.s), .d (.l)], .ptr 64 0, .d (.b), .d (.i .i64), .d (.i .i64), .undef, .d (.b), .any, .any], [(64, .box [.d (.i .i64), .d (.i .i64), .d (.i .i64), .d (.i .i64), .d (.s), .d (.l)])]⟩
def X40o1e1 : TSt := ⟨[.agg [.d (.i .i64), .d (.i .i64), .d (.i .i64), .d (.i .i64), .d (.s), .d (.l)], .ptr 64 0, .d (.b), .d (.i .i64), .d (.i .i64), .ptr 320 0, .d (.b), .d (.b), .d (.b)], [(64, .box [.d (.i .i64), .d (.i .i64), .d (.i .i64), .d (.i .i64), .d (.s), .d (.l)]), (320, .box [.d (.i .i64), .d (.s)])]⟩
def X40o1e2 : TSt := ⟨[.agg [.d (.i .i64), .d (.i .i64), .d (.i .i64), .d (.i .i64), .d (.s), .d (.l)], .ptr 64 0, .d (.b), .d (.i .i64), .d (.i .i64), .undef, .d (.b), .d (.b), .any], [(64, .box [.d (.i .i64), .d (.i .i64), .d (.i .i64), .d (.i .i64), .d (.s), .d (.l)])]⟩
def L40o1 (m : Nat) (vs : List Vr) (K : Cont (List DV × List (List D))) : Rs := la40o1 tu39 tu74 (vI vs 0) (vI vs 1) (vI vs 2) (vI vs 3) (vS vs 4) (vL vs 5) (vB vs 6) (vB vs 9) (vI vs 12) (vI vs 13) (vI vs 14) (vI vs 15) (vS vs 16) (vL vs 17) (fun n59 n60 b61 b62 n63 s64 => K .ret (fillS X40o1e1 [.i (vI vs 0), .i (vI vs 1), .i (vI vs 2), .i (vI vs 3), .s (vS vs 4), .l (vL vs 5), .b (false), .i (n59), .i (n60), .b (vB vs 9), .b (b61), .b (b62), .i (vI vs 12), .i (vI vs 13), .i (vI vs 14), .i (vI vs 15), .s (vS vs 16), .l (vL vs 17), .i (n63), .s (s64)])) (fun n65 n66 b67 v68 => K (.exit 0) (fillS X40o1e2 [.i (vI vs 0), .i (vI vs 1), .i (vI vs 2), .i (vI vs 3), .s (vS vs 4), .l (vL vs 5), .b (vB vs 6), .i (n65), .i (n66), .b (vB vs 9), .b (b67), .v (v68), .i (vI vs 12), .i (vI vs 13), .i (vI vs 14), .i (vI vs 15), .s (vS vs 16), .l (vL vs 17)])) m (vI vs 7) (vI vs 8) (vV vs 10) (vV vs 11)
def ST40 : List (Nat × (St → Cont (List DV × List (List D)) → Rs)) := [(1, sumT T40o1 (L40o1 KK))]
noncomputable def b40o1 : Code := match nodeAt c40 1 with | some (.loop a) => a | _ => .skip
theorem q40o1 : ∀ m vs K, L40o1 (m + 1) vs K = denK C40 (lkS ST40) b40o1 2 (fillS T40o1 vs) (loopK T40o1 (L40o1 m) K) := fun m vs K => by kernel_rfl
theorem o40o1 : SumOk C40 KK (sumT T40o1 (L40o1 KK)) (.loop b40o1) := loop_ok T40o1 L40o1 (sums_of (t := ST40) ⟨fun _ _ h => absurd h (by decide), trivial⟩) (fun _ _ => rfl) q40o1
theorem r40 : ∀ vs, tw40 vs = bodyK C40 (lkS ST40) Try.f40 (sig 40) c40 (fillAs A40 0 vs) := fun vs => by kernel_rfl
theorem ok40 : ∀ xs q, opt (th40 xs) = some q → evalBody Try.prog sig (Gd G dep (dep 40)) KK 40 xs = some q := fun xs q h => body_ok Try.func40 (c := c40) rfl A40 tw40 (sums_of (C := C40) (t := ST40) ⟨sum_in (c' := .loop b40o1) (by kernel_rfl) (o40o1), trivial⟩) r40 (by rw [← tpw40]; exact opt_gOf h)
noncomputable def C42 : Ctx := ⟨Try.prog, sig, Gd G dep (dep 42), (sig 42).keep, (sig 42).ord⟩
noncomputable def c42 : Code := Try.f42.body.getD .skip
def ST42 : List (Nat × (St → Cont (List DV × List (List D)) → Rs)) := []
theorem r42 : ∀ vs, tw42 vs = bodyK C42 (lkS ST42) Try.f42 (sig 42) c42 (fillAs A42 0 vs) := fun vs => by kernel_rfl
theorem ok42 : ∀ xs q, opt (th42 xs) = some q → evalBody Try.prog sig (Gd G dep (dep 42)) KK 42 xs = some q := fun xs q h => body_ok Try.func42 (c := c42) rfl A42 tw42 (sums_of (C := C42) (t := ST42) trivial) r42 (by rw [← tpw42]; exact opt_gOf h)
noncomputable def C43 : Ctx := ⟨Try.prog, sig, Gd G dep (dep 43), (sig 43).keep, (sig 43).ord⟩
noncomputable def c43 : Code := Try.f43.body.getD .skip
def T43o0 : TSt := ⟨[.d (.l), .d (.i .i64), .d (.b), .d (.i .i64), .any, .any], []⟩
def X43o0e1 : TSt := ⟨[.d (.l), .d (.i .i64), .d (.b), .d (.i .i64), .d (.b), .d (.b)], []⟩
def X43o0e2 : TSt := ⟨[.d (.l), .d (.i .i64), .d (.b), .d (.i .i64), .d (.b), .any], []⟩
def L43o0 (m : Nat) (vs : List Vr) (K : Cont (List DV × List (List D))) : Rs := l43o0 (vL vs 0) (vI vs 1) (vB vs 2) (fun n19 b20 b21 => K .ret (fillS X43o0e1 [.l (vL vs 0), .i (vI vs 1), .b (true), .i (n19), .b (b20), .b (b21)])) (fun n22 b23 v24 => K (.exit 0) (fillS X43o0e2 [.l (vL vs 0), .i (vI vs 1), .b (vB vs 2), .i (n22), .b (b23), .v (v24)])) m (vI vs 3) (vV vs 4) (vV vs 5)
def ST43 : List (Nat × (St → Cont (List DV × List (List D)) → Rs)) := [(0, sumT T43o0 (L43o0 KK))]
noncomputable def b43o0 : Code := match nodeAt c43 0 with | some (.loop a) => a | _ => .skip
theorem q43o0 : ∀ m vs K, L43o0 (m + 1) vs K = denK C43 (lkS ST43) b43o0 1 (fillS T43o0 vs) (loopK T43o0 (L43o0 m) K) := fun m vs K => by kernel_rfl
theorem o43o0 : SumOk C43 KK (sumT T43o0 (L43o0 KK)) (.loop b43o0) := loop_ok T43o0 L43o0 (sums_of (t := ST43) ⟨fun _ _ h => absurd h (by decide), trivial⟩) (fun _ _ => rfl) q43o0
theorem r43 : ∀ vs, tw43 vs = bodyK C43 (lkS ST43) Try.f43 (sig 43) c43 (fillAs A43 0 vs) := fun vs => by kernel_rfl
theorem ok43 : ∀ xs q, opt (th43 xs) = some q → evalBody Try.prog sig (Gd G dep (dep 43)) KK 43 xs = some q := fun xs q h => body_ok Try.func43 (c := c43) rfl A43 tw43 (sums_of (C := C43) (t := ST43) ⟨sum_in (c' := .loop b43o0) (by kernel_rfl) (o43o0), trivial⟩) r43 (by rw [← tpw43]; exact opt_gOf h)
noncomputable def C11 : Ctx := ⟨Try.prog, sig, Gd G dep (dep 11), (sig 11).keep, (sig 11).ord⟩
noncomputable def c11 : Code := Try.f11.body.getD .skip
def T11o8 : TSt := ⟨[.agg [.d (.i .i64), .d (.i .i64), .d (.i .i64), .d (.i .i64), .d (.i .i64), .d (.i .i64), .d (.i .i64), .d (.i .i64), .d (.l), .d (.i .i64), .d (.l), .d (.l), .d (.l)], .ptr 64 0, .d (.b), .undef, .d (.i .i64), .d (.b), .d (.i .i64), .d (.b), .d (.b), .undef, .undef, .d (.b), .d (.b), .any, .any], [(64, .box [.d (.i .i64), .d (.i .i64), .d (.i .i64), .d (.i .i64), .d (.i .i64), .d (.i .i64), .d (.i .i64), .d (.i .i64), .d (.l), .d (.i .i64), .d (.l), .d (.l), .d (.l)]), (1925, .row 92 2)]⟩
def X11o8e1 : TSt := ⟨[.agg [.d (.i .i64), .d (.i .i64), .d (.i .i64), .d (.i .i64), .d (.i .i64), .d (.i .i64), .d (.i .i64), .d (.i .i64), .d (.l), .d (.i .i64), .d (.l), .d (.l), .d (.l)], .ptr 64 0, .d (.b), .undef, .d (.i .i64), .d (.b), .d (.i .i64), .d (.b), .d (.b), .undef, .undef, .d (.b), .d (.b), .d (.b), .d (.b)], [(64, .box [.d (.i .i64), .d (.i .i64), .d (.i .i64), .d (.i .i64), .d (.i .i64), .d (.i .i64), .d (.i .i64), .d (.i .i64), .d (.l), .d (.i .i64), .d (.l), .d (.l), .d (.l)]), (1925, .row 92 2)]⟩
def X11o8e2 : TSt := ⟨[.agg [.d (.i .i64), .d (.i .i64), .d (.i .i64), .d (.i .i64), .d (.i .i64), .d (.i .i64), .d (.i .i64), .d (.i .i64), .d (.l), .d (.i .i64), .d (.l), .d (.l), .d (.l)], .ptr 64 0, .d (.b), .undef, .d (.i .i64), .d (.b), .d (.i .i64), .d (.b), .d (.b), .undef, .undef, .d (.b), .d (.b), .d (.b), .any], [(64, .box [.d (.i .i64), .d (.i .i64), .d (.i .i64), .d (.i .i64), .d (.i .i64), .d (.i .i64), .d (.i .i64), .d (.i .i64), .d (.l), .d (.i .i64), .d (.l), .d (.l), .d (.l)]), (1925, .row 92 2)]⟩
def L11o8 (m : Nat) (vs : List Vr) (K : Cont (List DV × List (List D))) : Rs := la11o8 tu39 tu40 tu41 tu42 tu43 (vI vs 0) (vI vs 1) (vI vs 2) (vI vs 3) (vI vs 4) (vI vs 5) (vI vs 6) (vI vs 7) (vL vs 8) (vI vs 9) (vL vs 10) (vL vs 11) (vL vs 12) (vB vs 13) (vB vs 15) (vI vs 16) (vB vs 17) (vB vs 18) (vB vs 19) (vB vs 20) (vI vs 23) (vI vs 24) (vI vs 25) (vI vs 26) (vI vs 27) (vI vs 28) (vI vs 29) (vI vs 30) (vL vs 31) (vI vs 32) (vL vs 33) (vL vs 34) (vL vs 35) (vL vs 36) (fun n238 b239 b240 => K .ret (fillS X11o8e1 [.i (vI vs 0), .i (vI vs 1), .i (vI vs 2), .i (vI vs 3), .i (vI vs 4), .i (vI vs 5), .i (vI vs 6), .i (vI vs 7), .l (vL vs 8), .i (vI vs 9), .l (vL vs 10), .l (vL vs 11), .l (vL vs 12), .b (false), .i (n238), .b (vB vs 15), .i (vI vs 16), .b (vB vs 17), .b (vB vs 18), .b (vB vs 19), .b (vB vs 20), .b (b239), .b (b240), .i (vI vs 23), .i (vI vs 24), .i (vI vs 25), .i (vI vs 26), .i (vI vs 27), .i (vI vs 28), .i (vI vs 29), .i (vI vs 30), .l (vL vs 31), .i (vI vs 32), .l (vL vs 33), .l (vL vs 34), .l (vL vs 35), .l (vL vs 36)])) (fun n241 b242 v243 => K (.exit 3) (fillS X11o8e2 [.i (vI vs 0), .i (vI vs 1), .i (vI vs 2), .i (vI vs 3), .i (vI vs 4), .i (vI vs 5), .i (vI vs 6), .i (vI vs 7), .l (vL vs 8), .i (vI vs 9), .l (vL vs 10), .l (vL vs 11), .l (vL vs 12), .b (vB vs 13), .i (n241), .b (vB vs 15), .i (vI vs 16), .b (vB vs 17), .b (vB vs 18), .b (vB vs 19), .b (vB vs 20), .b (b242), .v (v243), .i (vI vs 23), .i (vI vs 24), .i (vI vs 25), .i (vI vs 26), .i (vI vs 27), .i (vI vs 28), .i (vI vs 29), .i (vI vs 30), .l (vL vs 31), .i (vI vs 32), .l (vL vs 33), .l (vL vs 34), .l (vL vs 35), .l (vL vs 36)])) m (vI vs 14) (vV vs 21) (vV vs 22)
def T11o3 : TSt := ⟨[.agg [.d (.i .i64), .d (.i .i64), .d (.i .i64), .d (.i .i64), .d (.i .i64), .d (.i .i64), .d (.i .i64), .d (.i .i64), .d (.l), .d (.i .i64), .d (.l), .d (.l), .d (.l)], .ptr 64 0, .d (.b), .d (.i .i64), .undef, .d (.b), .d (.i .i64), .d (.b), .d (.b), .any, .any, .undef, .undef, .undef, .undef], [(64, .box [.d (.i .i64), .d (.i .i64), .d (.i .i64), .d (.i .i64), .d (.i .i64), .d (.i .i64), .d (.i .i64), .d (.i .i64), .d (.l), .d (.i .i64), .d (.l), .d (.l), .d (.l)]), (1925, .row 92 2)]⟩
def X11o3e1 : TSt := ⟨[.agg [.d (.i .i64), .d (.i .i64), .d (.i .i64), .d (.i .i64), .d (.i .i64), .d (.i .i64), .d (.i .i64), .d (.i .i64), .d (.l), .d (.i .i64), .d (.l), .d (.l), .d (.l)], .ptr 64 0, .d (.b), .d (.i .i64), .undef, .d (.b), .d (.i .i64), .d (.b), .d (.b), .d (.b), .d (.b), .undef, .undef, .undef, .undef], [(64, .box [.d (.i .i64), .d (.i .i64), .d (.i .i64), .d (.i .i64), .d (.i .i64), .d (.i .i64), .d (.i .i64), .d (.i .i64), .d (.l), .d (.i .i64), .d (.l), .d (.l), .d (.l)]), (1925, .row 92 2)]⟩
def X11o3e2 : TSt := ⟨[.agg [.d (.i .i64), .d (.i .i64), .d (.i .i64), .d (.i .i64), .d (.i .i64), .d (.i .i64), .d (.i .i64), .d (.i .i64), .d (.l), .d (.i .i64), .d (.l), .d (.l), .d (.l)], .ptr 64 0, .d (.b), .d (.i .i64), .undef, .d (.b), .d (.i .i64), .d (.b), .d (.b), .d (.b), .any, .undef, .undef, .undef, .undef], [(64, .box [.d (.i .i64), .d (.i .i64), .d (.i .i64), .d (.i .i64), .d (.i .i64), .d (.i .i64), .d (.i .i64), .d (.i .i64), .d (.l), .d (.i .i64), .d (.l), .d (.l), .d (.l)]), (1925, .row 92 2)]⟩
def L11o3 (m : Nat) (vs : List Vr) (K : Cont (List DV × List (List D))) : Rs := la11o3 tu39 tu40 tu41 tu42 tu43 (vI vs 0) (vI vs 1) (vI vs 2) (vI vs 3) (vI vs 4) (vI vs 5) (vI vs 6) (vI vs 7) (vL vs 8) (vI vs 9) (vL vs 10) (vL vs 11) (vL vs 12) (vB vs 13) (vB vs 15) (vI vs 16) (vB vs 17) (vB vs 18) (vI vs 21) (vI vs 22) (vI vs 23) (vI vs 24) (vI vs 25) (vI vs 26) (vI vs 27) (vI vs 28) (vL vs 29) (vI vs 30) (vL vs 31) (vL vs 32) (vL vs 33) (vL vs 34) (fun n117 b118 b119 => K .ret (fillS X11o3e1 [.i (vI vs 0), .i (vI vs 1), .i (vI vs 2), .i (vI vs 3), .i (vI vs 4), .i (vI vs 5), .i (vI vs 6), .i (vI vs 7), .l (vL vs 8), .i (vI vs 9), .l (vL vs 10), .l (vL vs 11), .l (vL vs 12), .b (false), .i (n117), .b (vB vs 15), .i (vI vs 16), .b (vB vs 17), .b (vB vs 18), .b (b118), .b (b119), .i (vI vs 21), .i (vI vs 22), .i (vI vs 23), .i (vI vs 24), .i (vI vs 25), .i (vI vs 26), .i (vI vs 27), .i (vI vs 28), .l (vL vs 29), .i (vI vs 30), .l (vL vs 31), .l (vL vs 32), .l (vL vs 33), .l (vL vs 34)])) (fun n120 b121 v122 => K (.exit 1) (fillS X11o3e2 [.i (vI vs 0), .i (vI vs 1), .i (vI vs 2), .i (vI vs 3), .i (vI vs 4), .i (vI vs 5), .i (vI vs 6), .i (vI vs 7), .l (vL vs 8), .i (vI vs 9), .l (vL vs 10), .l (vL vs 11), .l (vL vs 12), .b (vB vs 13), .i (n120), .b (vB vs 15), .i (vI vs 16), .b (vB vs 17), .b (vB vs 18), .b (b121), .v (v122), .i (vI vs 21), .i (vI vs 22), .i (vI vs 23), .i (vI vs 24), .i (vI vs 25), .i (vI vs 26), .i (vI vs 27), .i (vI vs 28), .l (vL vs 29), .i (vI vs 30), .l (vL vs 31), .l (vL vs 32), .l (vL vs 33), .l (vL vs 34)])) m (vI vs 14) (vV vs 19) (vV vs 20)
def ST11 : List (Nat × (St → Cont (List DV × List (List D)) → Rs)) := [(8, sumT T11o8 (L11o8 KK)), (3, sumT T11o3 (L11o3 KK))]
noncomputable def b11o8 : Code := match nodeAt c11 8 with | some (.loop a) => a | _ => .skip
noncomputable def b11o3 : Code := match nodeAt c11 3 with | some (.loop a) => a | _ => .skip
theorem q11o8 : ∀ m vs K, L11o8 (m + 1) vs K = denK C11 (lkS ST11) b11o8 9 (fillS T11o8 vs) (loopK T11o8 (L11o8 m) K) := fun m vs K => by kernel_rfl
theorem o11o8 : SumOk C11 KK (sumT T11o8 (L11o8 KK)) (.loop b11o8) := loop_ok T11o8 L11o8 (sums_of (t := ST11) ⟨fun _ _ h => absurd h (by decide), fun _ _ h => absurd h (by decide), trivial⟩) (fun _ _ => rfl) q11o8
theorem q11o3 : ∀ m vs K, L11o3 (m + 1) vs K = denK C11 (lkS ST11) b11o3 4 (fillS T11o3 vs) (loopK T11o3 (L11o3 m) K) := fun m vs K => by kernel_rfl
theorem o11o3 : SumOk C11 KK (sumT T11o3 (L11o3 KK)) (.loop b11o3) := loop_ok T11o3 L11o3 (sums_of (t := ST11) ⟨sum_out (by kernel_rfl), fun _ _ h => absurd h (by decide), trivial⟩) (fun _ _ => rfl) q11o3
theorem r11 : ∀ vs, tw11 vs = bodyK C11 (lkS ST11) Try.f11 (sig 11) c11 (fillAs A11 0 vs) := fun vs => by kernel_rfl
theorem ok11 : ∀ xs q, opt (th11 xs) = some q → evalBody Try.prog sig (Gd G dep (dep 11)) KK 11 xs = some q := fun xs q h => body_ok Try.func11 (c := c11) rfl A11 tw11 (sums_of (C := C11) (t := ST11) ⟨sum_in (c' := .loop b11o8) (by kernel_rfl) (o11o8), sum_in (c' := .loop b11o3) (by kernel_rfl) (o11o3), trivial⟩) r11 (by rw [← tpw11]; exact opt_gOf h)
noncomputable def C61 : Ctx := ⟨Try.prog, sig, Gd G dep (dep 61), (sig 61).keep, (sig 61).ord⟩
noncomputable def c61 : Code := Try.f61.body.getD .skip
def ST61 : List (Nat × (St → Cont (List DV × List (List D)) → Rs)) := []
theorem r61 : ∀ vs, tw61 vs = bodyK C61 (lkS ST61) Try.f61 (sig 61) c61 (fillAs A61 0 vs) := fun vs => by kernel_rfl
theorem ok61 : ∀ xs q, opt (th61 xs) = some q → evalBody Try.prog sig (Gd G dep (dep 61)) KK 61 xs = some q := fun xs q h => body_ok Try.func61 (c := c61) rfl A61 tw61 (sums_of (C := C61) (t := ST61) trivial) r61 (by rw [← tpw61]; exact opt_gOf h)
noncomputable def C62 : Ctx := ⟨Try.prog, sig, Gd G dep (dep 62), (sig 62).keep, (sig 62).ord⟩
noncomputable def c62 : Code := Try.f62.body.getD .skip
def ST62 : List (Nat × (St → Cont (List DV × List (List D)) → Rs)) := []
theorem r62 : ∀ vs, tw62 vs = bodyK C62 (lkS ST62) Try.f62 (sig 62) c62 (fillAs A62 0 vs) := fun vs => by kernel_rfl
theorem ok62 : ∀ xs q, opt (th62 xs) = some q → evalBody Try.prog sig (Gd G dep (dep 62)) KK 62 xs = some q := fun xs q h => body_ok Try.func62 (c := c62) rfl A62 tw62 (sums_of (C := C62) (t := ST62) trivial) r62 (by rw [← tpw62]; exact opt_gOf h)
noncomputable def C83 : Ctx := ⟨Try.prog, sig, Gd G dep (dep 83), (sig 83).keep, (sig 83).ord⟩
noncomputable def c83 : Code := Try.f83.body.getD .skip
def T83o100002 : TSt := ⟨[.agg [.d (.i .i64), .d (.i .i64), .d (.i .i64), .d (.i .i64), .d (.i .i64), .d (.i .i64), .d (.i .i64), .d (.i .i64), .own 4105, .d (.i .i64), .own 4107, .own 4108, .own 4109], .ptr 64 0, .ptr 128 0, .d (.i .i64), .d (.i .i64), .d (.i .i64), .d (.b), .any, .any, .any], [(64, .box [.d (.i .i64), .d (.i .i64), .d (.i .i64), .d (.i .i64), .d (.i .i64), .d (.i .i64), .d (.i .i64), .d (.i .i64), .own 4105, .d (.i .i64), .own 4107, .own 4108, .own 4109]), (128, .box [.d (.i .i64), .d (.i .i64), .d (.i .i64), .d (.i .i64), .d (.i .i64), .d (.i .i64), .d (.i .i64), .d (.i .i64), .nils, .d (.i .i64), .nils, .nils, .nils]), (4105, .row 92 2), (4107, .row 3 1), (4108, .row 3 1), (4109, .row 3 1)]⟩
def X83o100002e1 : TSt := ⟨[.agg [.d (.i .i64), .d (.i .i64), .d (.i .i64), .d (.i .i64), .d (.i .i64), .d (.i .i64), .d (.i .i64), .d (.i .i64), .own 4105, .d (.i .i64), .own 4107, .own 4108, .own 4109], .ptr 64 0, .ptr 128 0, .d (.i .i64), .d (.i .i64), .d (.i .i64), .d (.b), .d (.b), .any, .any], [(64, .box [.d (.i .i64), .d (.i .i64), .d (.i .i64), .d (.i .i64), .d (.i .i64), .d (.i .i64), .d (.i .i64), .d (.i .i64), .own 4105, .d (.i .i64), .own 4107, .own 4108, .own 4109]), (128, .box [.d (.i .i64), .d (.i .i64), .d (.i .i64), .d (.i .i64), .d (.i .i64), .d (.i .i64), .d (.i .i64), .d (.i .i64), .nils, .d (.i .i64), .nils, .nils, .nils]), (4105, .row 92 2), (4107, .row 3 1), (4108, .row 3 1), (4109, .row 3 1)]⟩
def L83o100002 (m : Nat) (vs : List Vr) (K : Cont (List DV × List (List D))) : Rs := la83o100002 tu42 tu62 (vI vs 0) (vI vs 1) (vI vs 2) (vI vs 3) (vI vs 4) (vI vs 5) (vI vs 6) (vI vs 7) (vI vs 8) (vI vs 9) (vB vs 12) (vI vs 16) (vI vs 17) (vI vs 18) (vI vs 19) (vI vs 20) (vI vs 21) (vI vs 22) (vI vs 23) (vI vs 24) (vI vs 25) (vI vs 26) (vI vs 27) (vI vs 28) (vI vs 29) (vI vs 30) (vI vs 31) (vI vs 32) (vI vs 33) (vL vs 34) (vL vs 35) (vL vs 36) (vL vs 37) (fun n319 n320 b321 v322 v323 => K (.exit 2) (fillS X83o100002e1 [.i (vI vs 0), .i (vI vs 1), .i (vI vs 2), .i (vI vs 3), .i (vI vs 4), .i (vI vs 5), .i (vI vs 6), .i (vI vs 7), .i (vI vs 8), .i (vI vs 9), .i (n319), .i (n320), .b (vB vs 12), .b (b321), .v (v322), .v (v323), .i (vI vs 16), .i (vI vs 17), .i (vI vs 18), .i (vI vs 19), .i (vI vs 20), .i (vI vs 21), .i (vI vs 22), .i (vI vs 23), .i (vI vs 24), .i (vI vs 25), .i (vI vs 26), .i (vI vs 27), .i (vI vs 28), .i (vI vs 29), .i (vI vs 30), .i (vI vs 31), .i (vI vs 32), .i (vI vs 33), .l (vL vs 34), .l (vL vs 35), .l (vL vs 36), .l (vL vs 37)])) m (vI vs 10) (vI vs 11) (vV vs 13) (vV vs 14) (vV vs 15)
def T83o0 : TSt := ⟨[.agg [.d (.i .i64), .d (.i .i64), .d (.i .i64), .d (.i .i64), .d (.i .i64), .d (.i .i64), .d (.i .i64), .d (.i .i64), .own 4105, .d (.i .i64), .own 4107, .own 4108, .own 4109], .ptr 64 0, .ptr 128 0, .d (.i .i64), .any, .any, .any, .any, .any, .any], [(64, .box [.d (.i .i64), .d (.i .i64), .d (.i .i64), .d (.i .i64), .d (.i .i64), .d (.i .i64), .d (.i .i64), .d (.i .i64), .own 4105, .d (.i .i64), .own 4107, .own 4108, .own 4109]), (128, .box [.d (.i .i64), .d (.i .i64), .d (.i .i64), .d (.i .i64), .d (.i .i64), .d (.i .i64), .d (.i .i64), .d (.i .i64), .nils, .d (.i .i64), .nils, .nils, .nils]), (4105, .row 92 2), (4107, .row 3 1), (4108, .row 3 1), (4109, .row 3 1)]⟩
def X83o0e1 : TSt := ⟨[.agg [.d (.i .i64), .d (.i .i64), .d (.i .i64), .d (.i .i64), .d (.i .i64), .d (.i .i64), .d (.i .i64), .d (.i .i64), .own 4105, .d (.i .i64), .own 4107, .own 4108, .own 4109], .ptr 64 0, .ptr 128 0, .d (.i .i64), .d (.i .i64), .d (.i .i64), .d (.b), .d (.b), .any, .d (.b)], [(64, .box [.d (.i .i64), .d (.i .i64), .d (.i .i64), .d (.i .i64), .d (.i .i64), .d (.i .i64), .d (.i .i64), .d (.i .i64), .own 4105, .d (.i .i64), .own 4107, .own 4108, .own 4109]), (128, .box [.d (.i .i64), .d (.i .i64), .d (.i .i64), .d (.i .i64), .d (.i .i64), .d (.i .i64), .d (.i .i64), .d (.i .i64), .own 4105, .d (.i .i64), .own 4107, .own 4108, .own 4109]), (4105, .row 92 2), (4107, .row 3 1), (4108, .row 3 1), (4109, .row 3 1)]⟩
def X83o0e2 : TSt := ⟨[.agg [.d (.i .i64), .d (.i .i64), .d (.i .i64), .d (.i .i64), .d (.i .i64), .d (.i .i64), .d (.i .i64), .d (.i .i64), .own 4105, .d (.i .i64), .own 4107, .own 4108, .own 4109], .ptr 64 0, .ptr 128 0, .d (.i .i64), .any, .any, .d (.b), .any, .any, .any], [(64, .box [.d (.i .i64), .d (.i .i64), .d (.i .i64), .d (.i .i64), .d (.i .i64), .d (.i .i64), .d (.i .i64), .d (.i .i64), .own 4105, .d (.i .i64), .own 4107, .own 4108, .own 4109]), (128, .box [.d (.i .i64), .d (.i .i64), .d (.i .i64), .d (.i .i64), .d (.i .i64), .d (.i .i64), .d (.i .i64), .d (.i .i64), .nils, .d (.i .i64), .nils, .nils, .nils]), (4105, .row 92 2), (4107, .row 3 1), (4108, .row 3 1), (4109, .row 3 1)]⟩
def L83o0 (m : Nat) (vs : List Vr) (K : Cont (List DV × List (List D))) : Rs := la83o0 tu42 tu62 (vI vs 0) (vI vs 1) (vI vs 2) (vI vs 3) (vI vs 4) (vI vs 5) (vI vs 6) (vI vs 7) (vI vs 8) (vI vs 16) (vI vs 17) (vI vs 18) (vI vs 19) (vI vs 20) (vI vs 21) (vI vs 22) (vI vs 23) (vI vs 24) (vI vs 25) (vI vs 26) (vI vs 27) (vI vs 28) (vI vs 29) (vI vs 30) (vI vs 31) (vI vs 32) (vI vs 33) (vL vs 34) (vL vs 35) (vL vs 36) (vL vs 37) (fun n367 n368 n369 b370 b371 v372 b373 => K .ret (fillS X83o0e1 [.i (vI vs 0), .i (vI vs 1), .i (vI vs 2), .i (vI vs 3), .i (vI vs 4), .i (vI vs 5), .i (vI vs 6), .i (vI vs 7), .i (vI vs 8), .i (n367), .i (n368), .i (n369), .b (b370), .b (b371), .v (v372), .b (b373), .i (vI vs 16), .i (vI vs 17), .i (vI vs 18), .i (vI vs 19), .i (vI vs 20), .i (vI vs 21), .i (vI vs 22), .i (vI vs 23), .i (n367), .i (vI vs 16), .i (vI vs 17), .i (vI vs 18), .i (vI vs 19), .i (vI vs 20), .i (vI vs 21), .i (vI vs 22), .i (vI vs 23), .i (n367), .l (vL vs 34), .l (vL vs 35), .l (vL vs 36), .l (vL vs 37)])) (fun n374 v375 v376 b377 v378 v379 v380 => K (.exit 0) (fillS X83o0e2 [.i (vI vs 0), .i (vI vs 1), .i (vI vs 2), .i (vI vs 3), .i (vI vs 4), .i (vI vs 5), .i (vI vs 6), .i (vI vs 7), .i (vI vs 8), .i (n374), .v (v375), .v (v376), .b (b377), .v (v378), .v (v379), .v (v380), .i (vI vs 16), .i (vI vs 17), .i (vI vs 18), .i (vI vs 19), .i (vI vs 20), .i (vI vs 21), .i (vI vs 22), .i (vI vs 23), .i (vI vs 24), .i (vI vs 25), .i (vI vs 26), .i (vI vs 27), .i (vI vs 28), .i (vI vs 29), .i (vI vs 30), .i (vI vs 31), .i (vI vs 32), .i (vI vs 33), .l (vL vs 34), .l (vL vs 35), .l (vL vs 36), .l (vL vs 37)])) m (vI vs 9) (vV vs 10) (vV vs 11) (vV vs 12) (vV vs 13) (vV vs 14) (vV vs 15)
def ST83 : List (Nat × (St → Cont (List DV × List (List D)) → Rs)) := [(2, sumT T83o100002 (L83o100002 KK)), (0, sumT T83o0 (L83o0 KK))]
noncomputable def b83o2 : Code := match nodeAt c83 2 with | some (.loop a) => a | _ => .skip
noncomputable def b83o0 : Code := match nodeAt c83 0 with | some (.loop a) => a | _ => .skip
theorem q83o100002 : ∀ m vs K, L83o100002 (m + 1) vs K = denK C83 (lkS ST83) b83o2 3 (fillS T83o100002 vs) (loopK T83o100002 (L83o100002 m) K) := fun m vs K => by kernel_rfl
theorem o83o100002 : SumOk C83 KK (sumT T83o100002 (L83o100002 KK)) (.loop b83o2) := loop_ok T83o100002 L83o100002 (sums_of (t := ST83) ⟨fun _ _ h => absurd h (by decide), fun _ _ h => absurd h (by decide), trivial⟩) (fun _ _ => rfl) q83o100002
theorem q83o0 : ∀ m vs K, L83o0 (m + 1) vs K = denK C83 (lkS ST83) b83o0 1 (fillS T83o0 vs) (loopK T83o0 (L83o0 m) K) := fun m vs K => by kernel_rfl
theorem o83o0 : SumOk C83 KK (sumT T83o0 (L83o0 KK)) (.loop b83o0) := loop_ok T83o0 L83o0 (sums_of (t := ST83) ⟨sum_in (c' := .loop b83o2) (by kernel_rfl) (o83o100002), fun _ _ h => absurd h (by decide), trivial⟩) (fun _ _ => rfl) q83o0
theorem r83 : ∀ vs, tw83 vs = bodyK C83 (lkS ST83) Try.f83 (sig 83) c83 (fillAs A83 0 vs) := fun vs => by kernel_rfl
theorem ok83 : ∀ xs q, opt (th83 xs) = some q → evalBody Try.prog sig (Gd G dep (dep 83)) KK 83 xs = some q := fun xs q h => body_ok Try.func83 (c := c83) rfl A83 tw83 (sums_of (C := C83) (t := ST83) ⟨sum_in (c' := .loop b83o2) (by kernel_rfl) (o83o100002), sum_in (c' := .loop b83o0) (by kernel_rfl) (o83o0), trivial⟩) r83 (by rw [← tpw83]; exact opt_gOf h)
noncomputable def C69 : Ctx := ⟨Try.prog, sig, Gd G dep (dep 69), (sig 69).keep, (sig 69).ord⟩
noncomputable def c69 : Code := Try.f69.body.getD .skip
def ST69 : List (Nat × (St → Cont (List DV × List (List D)) → Rs)) := []
theorem r69 : ∀ vs, tw69 vs = bodyK C69 (lkS ST69) Try.f69 (sig 69) c69 (fillAs A69 0 vs) := fun vs => by kernel_rfl
theorem ok69 : ∀ xs q, opt (th69 xs) = some q → evalBody Try.prog sig (Gd G dep (dep 69)) KK 69 xs = some q := fun xs q h => body_ok Try.func69 (c := c69) rfl A69 tw69 (sums_of (C := C69) (t := ST69) trivial) r69 (by rw [← tpw69]; exact opt_gOf h)
noncomputable def C80 : Ctx := ⟨Try.prog, sig, Gd G dep (dep 80), (sig 80).keep, (sig 80).ord⟩
noncomputable def c80 : Code := Try.f80.body.getD .skip
def T80o1 : TSt := ⟨[.agg [.d (.i .i64), .d (.i .i64), .d (.i .i64), .d (.i .i64), .d (.i .i64), .d (.i .i64), .d (.i .i64), .d (.i .i64), .d (.l), .d (.i .i64), .d (.l), .d (.l), .d (.l)], .d (.i .i64), .ptr 128 0, .ptr 256 0, .d (.i .i64), .ptr 384 0, .d (.i .i64), .d (.b), .any], [(128, .box [.d (.i .i64), .d (.i .i64), .d (.i .i64), .d (.i .i64), .d (.i .i64), .d (.i .i64), .d (.i .i64), .d (.i .i64), .d (.l), .d (.i .i64), .d (.l), .d (.l), .d (.l)]), (256, .box [.d (.i .i64), .d (.i .i64), .d (.i .i64), .d (.i .i64), .d (.i .i64), .d (.i .i64), .d (.i .i64), .d (.b), .nils, .d (.s)]), (384, .box [.d (.i .i64), .d (.i .i64), .d (.i .i64), .d (.i .i64), .d (.i .i64), .d (.i .i64), .d (.i .i64), .d (.b), .own 24585, .d (.s)]), (24585, .row 92 2)]⟩
def X80o1e1 : TSt := ⟨[.agg [.d (.i .i64), .d (.i .i64), .d (.i .i64), .d (.i .i64), .d (.i .i64), .d (.i .i64), .d (.i .i64), .d (.i .i64), .d (.l), .d (.i .i64), .d (.l), .d (.l), .d (.l)], .d (.i .i64), .ptr 128 0, .ptr 256 0, .d (.i .i64), .ptr 384 0, .d (.i .i64), .d (.b), .d (.b)], [(128, .box [.d (.i .i64), .d (.i .i64), .d (.i .i64), .d (.i .i64), .d (.i .i64), .d (.i .i64), .d (.i .i64), .d (.i .i64), .d (.l), .d (.i .i64), .d (.l), .d (.l), .d (.l)]), (256, .box [.d (.i .i64), .d (.i .i64), .d (.i .i64), .d (.i .i64), .d (.i .i64), .d (.i .i64), .d (.i .i64), .d (.b), .nils, .d (.s)]), (384, .box [.d (.i .i64), .d (.i .i64), .d (.i .i64), .d (.i .i64), .d (.i .i64), .d (.i .i64), .d (.i .i64), .d (.b), .own 24585, .d (.s)]), (24585, .row 92 2)]⟩
def L80o1 (m : Nat) (vs : List Vr) (K : Cont (List DV × List (List D))) : Rs := la80o1 tu42 tu62 (vI vs 0) (vI vs 1) (vI vs 2) (vI vs 3) (vI vs 4) (vI vs 5) (vI vs 6) (vI vs 7) (vL vs 8) (vI vs 9) (vL vs 10) (vL vs 11) (vL vs 12) (vI vs 13) (vI vs 14) (vB vs 16) (vI vs 18) (vI vs 19) (vI vs 20) (vI vs 21) (vI vs 22) (vI vs 23) (vI vs 24) (vI vs 25) (vL vs 26) (vI vs 27) (vL vs 28) (vL vs 29) (vL vs 30) (vI vs 31) (vI vs 32) (vI vs 33) (vI vs 34) (vI vs 35) (vI vs 36) (vI vs 37) (vB vs 38) (vS vs 39) (vI vs 40) (vI vs 41) (vI vs 42) (vI vs 43) (vI vs 44) (vI vs 45) (vI vs 46) (vB vs 47) (vS vs 48) (fun n164 b165 l166 => K (.exit 0) (fillS X80o1e1 [.i (vI vs 0), .i (vI vs 1), .i (vI vs 2), .i (vI vs 3), .i (vI vs 4), .i (vI vs 5), .i (vI vs 6), .i (vI vs 7), .l (vL vs 8), .i (vI vs 9), .l (vL vs 10), .l (vL vs 11), .l (vL vs 12), .i (vI vs 13), .i (vI vs 14), .i (n164), .b (vB vs 16), .b (b165), .i (vI vs 18), .i (vI vs 19), .i (vI vs 20), .i (vI vs 21), .i (vI vs 22), .i (vI vs 23), .i (vI vs 24), .i (vI vs 25), .l (vL vs 26), .i (vI vs 27), .l (vL vs 28), .l (vL vs 29), .l (vL vs 30), .i (vI vs 31), .i (vI vs 32), .i (vI vs 33), .i (vI vs 34), .i (vI vs 35), .i (vI vs 36), .i (vI vs 37), .b (vB vs 38), .s (vS vs 39), .i (vI vs 40), .i (vI vs 41), .i (vI vs 42), .i (vI vs 43), .i (vI vs 44), .i (vI vs 45), .i (vI vs 46), .b (vB vs 47), .s (vS vs 48), .l (l166)])) m (vI vs 15) (vV vs 17) (vL vs 49)
def ST80 : List (Nat × (St → Cont (List DV × List (List D)) → Rs)) := [(1, sumT T80o1 (L80o1 KK))]
noncomputable def b80o1 : Code := match nodeAt c80 1 with | some (.loop a) => a | _ => .skip
theorem q80o1 : ∀ m vs K, L80o1 (m + 1) vs K = denK C80 (lkS ST80) b80o1 2 (fillS T80o1 vs) (loopK T80o1 (L80o1 m) K) := fun m vs K => by kernel_rfl
theorem o80o1 : SumOk C80 KK (sumT T80o1 (L80o1 KK)) (.loop b80o1) := loop_ok T80o1 L80o1 (sums_of (t := ST80) ⟨fun _ _ h => absurd h (by decide), trivial⟩) (fun _ _ => rfl) q80o1
theorem r80 : ∀ vs, tw80 vs = bodyK C80 (lkS ST80) Try.f80 (sig 80) c80 (fillAs A80 0 vs) := fun vs => by kernel_rfl
theorem ok80 : ∀ xs q, opt (th80 xs) = some q → evalBody Try.prog sig (Gd G dep (dep 80)) KK 80 xs = some q := fun xs q h => body_ok Try.func80 (c := c80) rfl A80 tw80 (sums_of (C := C80) (t := ST80) ⟨sum_in (c' := .loop b80o1) (by kernel_rfl) (o80o1), trivial⟩) r80 (by rw [← tpw80]; exact opt_gOf h)
noncomputable def C65 : Ctx := ⟨Try.prog, sig, Gd G dep (dep 65), (sig 65).keep, (sig 65).ord⟩
noncomputable def c65 : Code := Try.f65.body.getD .skip
def T65o0 : TSt := ⟨[.agg [.d (.i .i64), .d (.i .i64), .d (.i .i64), .d (.i .i64), .d (.i .i64), .d (.i .i64), .d (.i .i64), .d (.i .i64), .d (.l), .d (.i .i64), .d (.l), .d (.l), .d (.l)], .ptr 64 0, .nils, .own 320, .d (.i .i64), .any, .any], [(64, .box [.d (.i .i64), .d (.i .i64), .d (.i .i64), .d (.i .i64), .d (.i .i64), .d (.i .i64), .d (.i .i64), .d (.i .i64), .d (.l), .d (.i .i64), .d (.l), .d (.l), .d (.l)]), (320, .row 83 10)]⟩
def X65o0e1 : TSt := ⟨[.agg [.d (.i .i64), .d (.i .i64), .d (.i .i64), .d (.i .i64), .d (.i .i64), .d (.i .i64), .d (.i .i64), .d (.i .i64), .d (.l), .d (.i .i64), .d (.l), .d (.l), .d (.l)], .ptr 64 0, .nils, .own 320, .d (.i .i64), .d (.b), .any], [(64, .box [.d (.i .i64), .d (.i .i64), .d (.i .i64), .d (.i .i64), .d (.i .i64), .d (.i .i64), .d (.i .i64), .d (.i .i64), .d (.l), .d (.i .i64), .d (.l), .d (.l), .d (.l)]), (320, .row 83 10)]⟩
def L65o0 (m : Nat) (vs : List Vr) (K : Cont (List DV × List (List D))) : Rs := la65o0 tu80 (vI vs 0) (vI vs 1) (vI vs 2) (vI vs 3) (vI vs 4) (vI vs 5) (vI vs 6) (vI vs 7) (vL vs 8) (vI vs 9) (vL vs 10) (vL vs 11) (vL vs 12) (vI vs 16) (vI vs 17) (vI vs 18) (vI vs 19) (vI vs 20) (vI vs 21) (vI vs 22) (vI vs 23) (vL vs 24) (vI vs 25) (vL vs 26) (vL vs 27) (vL vs 28) (fun n104 b105 v106 l107 => K (.exit 0) (fillS X65o0e1 [.i (vI vs 0), .i (vI vs 1), .i (vI vs 2), .i (vI vs 3), .i (vI vs 4), .i (vI vs 5), .i (vI vs 6), .i (vI vs 7), .l (vL vs 8), .i (vI vs 9), .l (vL vs 10), .l (vL vs 11), .l (vL vs 12), .i (n104), .b (b105), .v (v106), .i (vI vs 16), .i (vI vs 17), .i (vI vs 18), .i (vI vs 19), .i (vI vs 20), .i (vI vs 21), .i (vI vs 22), .i (vI vs 23), .l (vL vs 24), .i (vI vs 25), .l (vL vs 26), .l (vL vs 27), .l (vL vs 28), .l (l107)])) m (vI vs 13) (vV vs 14) (vV vs 15) (vL vs 29)
def ST65 : List (Nat × (St → Cont (List DV × List (List D)) → Rs)) := [(0, sumT T65o0 (L65o0 KK))]
noncomputable def b65o0 : Code := match nodeAt c65 0 with | some (.loop a) => a | _ => .skip
theorem q65o0 : ∀ m vs K, L65o0 (m + 1) vs K = denK C65 (lkS ST65) b65o0 1 (fillS T65o0 vs) (loopK T65o0 (L65o0 m) K) := fun m vs K => by kernel_rfl
theorem o65o0 : SumOk C65 KK (sumT T65o0 (L65o0 KK)) (.loop b65o0) := loop_ok T65o0 L65o0 (sums_of (t := ST65) ⟨fun _ _ h => absurd h (by decide), trivial⟩) (fun _ _ => rfl) q65o0
theorem r65 : ∀ vs, tw65 vs = bodyK C65 (lkS ST65) Try.f65 (sig 65) c65 (fillAs A65 0 vs) := fun vs => by kernel_rfl
theorem ok65 : ∀ xs q, opt (th65 xs) = some q → evalBody Try.prog sig (Gd G dep (dep 65)) KK 65 xs = some q := fun xs q h => body_ok Try.func65 (c := c65) rfl A65 tw65 (sums_of (C := C65) (t := ST65) ⟨sum_in (c' := .loop b65o0) (by kernel_rfl) (o65o0), trivial⟩) r65 (by rw [← tpw65]; exact opt_gOf h)
noncomputable def C71 : Ctx := ⟨Try.prog, sig, Gd G dep (dep 71), (sig 71).keep, (sig 71).ord⟩
noncomputable def c71 : Code := Try.f71.body.getD .skip
def T71o0 : TSt := ⟨[.agg [.d (.i .i64), .d (.i .i64), .d (.i .i64), .d (.i .i64), .d (.i .i64), .d (.i .i64), .d (.i .i64), .d (.i .i64), .own 4105, .d (.i .i64), .own 4107, .own 4108, .own 4109], .ptr 64 0, .ptr 128 0, .nils, .d (.i .i64), .any], [(64, .box [.d (.i .i64), .d (.i .i64), .d (.i .i64), .d (.i .i64), .d (.i .i64), .d (.i .i64), .d (.i .i64), .d (.i .i64), .own 4105, .d (.i .i64), .own 576, .own 704, .own 832]), (128, .box [.d (.i .i64), .d (.i .i64), .d (.i .i64), .d (.i .i64), .d (.i .i64), .d (.i .i64), .d (.i .i64), .d (.i .i64), .nils, .d (.i .i64), .nils, .nils, .nils]), (576, .row 3 1), (704, .row 3 1), (832, .row 3 1), (4105, .row 92 2), (4107, .row 3 1), (4108, .row 3 1), (4109, .row 3 1)]⟩
def X71o0e1 : TSt := ⟨[.agg [.d (.i .i64), .d (.i .i64), .d (.i .i64), .d (.i .i64), .d (.i .i64), .d (.i .i64), .d (.i .i64), .d (.i .i64), .own 4105, .d (.i .i64), .own 4107, .own 4108, .own 4109], .ptr 64 0, .ptr 128 0, .nils, .d (.i .i64), .d (.b)], [(64, .box [.d (.i .i64), .d (.i .i64), .d (.i .i64), .d (.i .i64), .d (.i .i64), .d (.i .i64), .d (.i .i64), .d (.i .i64), .own 4105, .d (.i .i64), .own 576, .own 704, .own 832]), (128, .box [.d (.i .i64), .d (.i .i64), .d (.i .i64), .d (.i .i64), .d (.i .i64), .d (.i .i64), .d (.i .i64), .d (.i .i64), .nils, .d (.i .i64), .nils, .nils, .nils]), (576, .row 3 1), (704, .row 3 1), (832, .row 3 1), (4105, .row 92 2), (4107, .row 3 1), (4108, .row 3 1), (4109, .row 3 1)]⟩
def L71o0 (m : Nat) (vs : List Vr) (K : Cont (List DV × List (List D))) : Rs := la71o0 tu42 tu65 tu69 (vI vs 0) (vI vs 1) (vI vs 2) (vI vs 3) (vI vs 4) (vI vs 5) (vI vs 6) (vI vs 7) (vI vs 8) (vI vs 11) (vI vs 12) (vI vs 13) (vI vs 14) (vI vs 15) (vI vs 16) (vI vs 17) (vI vs 18) (vI vs 19) (vI vs 20) (vI vs 21) (vI vs 22) (vI vs 23) (vI vs 24) (vI vs 25) (vI vs 26) (vI vs 27) (vI vs 28) (vL vs 29) (vL vs 32) (vL vs 33) (vL vs 34) (vL vs 35) (fun n121 b122 l123 l124 => K (.exit 0) (fillS X71o0e1 [.i (vI vs 0), .i (vI vs 1), .i (vI vs 2), .i (vI vs 3), .i (vI vs 4), .i (vI vs 5), .i (vI vs 6), .i (vI vs 7), .i (vI vs 8), .i (n121), .b (b122), .i (vI vs 11), .i (vI vs 12), .i (vI vs 13), .i (vI vs 14), .i (vI vs 15), .i (vI vs 16), .i (vI vs 17), .i (vI vs 18), .i (vI vs 19), .i (vI vs 20), .i (vI vs 21), .i (vI vs 22), .i (vI vs 23), .i (vI vs 24), .i (vI vs 25), .i (vI vs 26), .i (vI vs 27), .i (vI vs 28), .l (vL vs 29), .l (l123), .l (l124), .l (vL vs 32), .l (vL vs 33), .l (vL vs 34), .l (vL vs 35)])) m (vI vs 9) (vV vs 10) (vL vs 30) (vL vs 31)
def ST71 : List (Nat × (St → Cont (List DV × List (List D)) → Rs)) := [(0, sumT T71o0 (L71o0 KK))]
noncomputable def b71o0 : Code := match nodeAt c71 0 with | some (.loop a) => a | _ => .skip
theorem q71o0 : ∀ m vs K, L71o0 (m + 1) vs K = denK C71 (lkS ST71) b71o0 1 (fillS T71o0 vs) (loopK T71o0 (L71o0 m) K) := fun m vs K => by kernel_rfl
theorem o71o0 : SumOk C71 KK (sumT T71o0 (L71o0 KK)) (.loop b71o0) := loop_ok T71o0 L71o0 (sums_of (t := ST71) ⟨fun _ _ h => absurd h (by decide), trivial⟩) (fun _ _ => rfl) q71o0
theorem r71 : ∀ vs, tw71 vs = bodyK C71 (lkS ST71) Try.f71 (sig 71) c71 (fillAs A71 0 vs) := fun vs => by kernel_rfl
theorem ok71 : ∀ xs q, opt (th71 xs) = some q → evalBody Try.prog sig (Gd G dep (dep 71)) KK 71 xs = some q := fun xs q h => body_ok Try.func71 (c := c71) rfl A71 tw71 (sums_of (C := C71) (t := ST71) ⟨sum_in (c' := .loop b71o0) (by kernel_rfl) (o71o0), trivial⟩) r71 (by rw [← tpw71]; exact opt_gOf h)
noncomputable def C35 : Ctx := ⟨Try.prog, sig, Gd G dep (dep 35), (sig 35).keep, (sig 35).ord⟩
noncomputable def c35 : Code := Try.f35.body.getD .skip
def T35o3 : TSt := ⟨[.agg [.d (.i .i64), .d (.i .i64), .d (.i .i64), .d (.i .i64), .d (.i .i64), .d (.i .i64), .d (.i .i64), .d (.i .i64), .d (.l), .d (.i .i64), .d (.l), .d (.l), .d (.l)], .ptr 64 0, .ptr 128 0, .nils, .own 512, .undef, .undef, .d (.i .i64), .d (.b), .d (.b), .d (.b), .any, .any], [(64, .box [.d (.i .i64), .d (.i .i64), .d (.i .i64), .d (.i .i64), .d (.i .i64), .d (.i .i64), .d (.i .i64), .d (.i .i64), .own 4105, .d (.i .i64), .own 2368, .own 4108, .own 4109]), (128, .box [.d (.i .i64), .d (.i .i64), .d (.i .i64), .d (.i .i64), .d (.i .i64), .d (.i .i64), .d (.i .i64), .d (.i .i64), .nils, .d (.i .i64), .nils, .nils, .nils]), (512, .row 83 10), (2368, .row 3 1), (4105, .row 92 2), (4107, .row 3 1), (4108, .row 3 1), (4109, .row 3 1)]⟩
def X35o3e1 : TSt := ⟨[.agg [.d (.i .i64), .d (.i .i64), .d (.i .i64), .d (.i .i64), .d (.i .i64), .d (.i .i64), .d (.i .i64), .d (.i .i64), .d (.l), .d (.i .i64), .d (.l), .d (.l), .d (.l)], .ptr 64 0, .ptr 128 0, .nils, .own 512, .undef, .undef, .d (.i .i64), .d (.b), .d (.b), .d (.b), .d (.b), .any], [(64, .box [.d (.i .i64), .d (.i .i64), .d (.i .i64), .d (.i .i64), .d (.i .i64), .d (.i .i64), .d (.i .i64), .d (.i .i64), .own 4105, .d (.i .i64), .own 2368, .own 4108, .own 4109]), (128, .box [.d (.i .i64), .d (.i .i64), .d (.i .i64), .d (.i .i64), .d (.i .i64), .d (.i .i64), .d (.i .i64), .d (.i .i64), .nils, .d (.i .i64), .nils, .nils, .nils]), (512, .row 83 10), (2368, .row 3 1), (4105, .row 92 2), (4107, .row 3 1), (4108, .row 3 1), (4109, .row 3 1)]⟩
def L35o3 (m : Nat) (vs : List Vr) (K : Cont (List DV × List (List D))) : Rs := la35o3 tu11 tu42 tu61 tu62 tu71 (vI vs 0) (vI vs 1) (vI vs 2) (vI vs 3) (vI vs 4) (vI vs 5) (vI vs 6) (vI vs 7) (vL vs 8) (vI vs 9) (vL vs 10) (vL vs 11) (vL vs 12) (vB vs 14) (vB vs 15) (vB vs 16) (vI vs 19) (vI vs 20) (vI vs 21) (vI vs 22) (vI vs 23) (vI vs 24) (vI vs 25) (vI vs 26) (vI vs 27) (vI vs 28) (vI vs 29) (vI vs 30) (vI vs 31) (vI vs 32) (vI vs 33) (vI vs 34) (vI vs 35) (vI vs 36) (vL vs 38) (vL vs 39) (vL vs 40) (vL vs 41) (vL vs 42) (fun n143 b144 v145 l146 => K (.exit 0) (fillS X35o3e1 [.i (vI vs 0), .i (vI vs 1), .i (vI vs 2), .i (vI vs 3), .i (vI vs 4), .i (vI vs 5), .i (vI vs 6), .i (vI vs 7), .l (vL vs 8), .i (vI vs 9), .l (vL vs 10), .l (vL vs 11), .l (vL vs 12), .i (n143), .b (vB vs 14), .b (vB vs 15), .b (vB vs 16), .b (b144), .v (v145), .i (vI vs 19), .i (vI vs 20), .i (vI vs 21), .i (vI vs 22), .i (vI vs 23), .i (vI vs 24), .i (vI vs 25), .i (vI vs 26), .i (vI vs 27), .i (vI vs 28), .i (vI vs 29), .i (vI vs 30), .i (vI vs 31), .i (vI vs 32), .i (vI vs 33), .i (vI vs 34), .i (vI vs 35), .i (vI vs 36), .l (l146), .l (vL vs 38), .l (vL vs 39), .l (vL vs 40), .l (vL vs 41), .l (vL vs 42)])) m (vI vs 13) (vV vs 17) (vV vs 18) (vL vs 37)
def ST35 : List (Nat × (St → Cont (List DV × List (List D)) → Rs)) := [(3, sumT T35o3 (L35o3 KK))]
noncomputable def b35o3 : Code := match nodeAt c35 3 with | some (.loop a) => a | _ => .skip
theorem q35o3 : ∀ m vs K, L35o3 (m + 1) vs K = denK C35 (lkS ST35) b35o3 4 (fillS T35o3 vs) (loopK T35o3 (L35o3 m) K) := fun m vs K => by kernel_rfl
theorem o35o3 : SumOk C35 KK (sumT T35o3 (L35o3 KK)) (.loop b35o3) := loop_ok T35o3 L35o3 (sums_of (t := ST35) ⟨fun _ _ h => absurd h (by decide), trivial⟩) (fun _ _ => rfl) q35o3
theorem r35 : ∀ vs, tw35 vs = bodyK C35 (lkS ST35) Try.f35 (sig 35) c35 (fillAs A35 0 vs) := fun vs => by kernel_rfl
theorem ok35 : ∀ xs q, opt (th35 xs) = some q → evalBody Try.prog sig (Gd G dep (dep 35)) KK 35 xs = some q := fun xs q h => body_ok Try.func35 (c := c35) rfl A35 tw35 (sums_of (C := C35) (t := ST35) ⟨sum_in (c' := .loop b35o3) (by kernel_rfl) (o35o3), trivial⟩) r35 (by rw [← tpw35]; exact opt_gOf h)
noncomputable def C46 : Ctx := ⟨Try.prog, sig, Gd G dep (dep 46), (sig 46).keep, (sig 46).ord⟩
noncomputable def c46 : Code := Try.f46.body.getD .skip
def ST46 : List (Nat × (St → Cont (List DV × List (List D)) → Rs)) := []
theorem r46 : ∀ vs, tw46 vs = bodyK C46 (lkS ST46) Try.f46 (sig 46) c46 (fillAs A46 0 vs) := fun vs => by kernel_rfl
theorem ok46 : ∀ xs q, opt (th46 xs) = some q → evalBody Try.prog sig (Gd G dep (dep 46)) KK 46 xs = some q := fun xs q h => body_ok Try.func46 (c := c46) rfl A46 tw46 (sums_of (C := C46) (t := ST46) trivial) r46 (by rw [← tpw46]; exact opt_gOf h)
noncomputable def C48 : Ctx := ⟨Try.prog, sig, Gd G dep (dep 48), (sig 48).keep, (sig 48).ord⟩
noncomputable def c48 : Code := Try.f48.body.getD .skip
def ST48 : List (Nat × (St → Cont (List DV × List (List D)) → Rs)) := []
theorem r48 : ∀ vs, tw48 vs = bodyK C48 (lkS ST48) Try.f48 (sig 48) c48 (fillAs A48 0 vs) := fun vs => by kernel_rfl
theorem ok48 : ∀ xs q, opt (th48 xs) = some q → evalBody Try.prog sig (Gd G dep (dep 48)) KK 48 xs = some q := fun xs q h => body_ok Try.func48 (c := c48) rfl A48 tw48 (sums_of (C := C48) (t := ST48) trivial) r48 (by rw [← tpw48]; exact opt_gOf h)
noncomputable def C47 : Ctx := ⟨Try.prog, sig, Gd G dep (dep 47), (sig 47).keep, (sig 47).ord⟩
noncomputable def c47 : Code := Try.f47.body.getD .skip
def T47o2 : TSt := ⟨[.agg [.d (.i .i64), .d (.i .i64), .d (.i .i64), .d (.i .i64), .d (.s), .d (.l)], .ptr 64 0, .d (.b), .d (.i .i64), .undef, .d (.b), .d (.b), .d (.l), .d (.i .i64), .d (.i .i64), .any, .any], [(64, .box [.d (.i .i64), .d (.i .i64), .d (.i .i64), .d (.i .i64), .d (.s), .d (.l)])]⟩
def X47o2e1 : TSt := ⟨[.agg [.d (.i .i64), .d (.i .i64), .d (.i .i64), .d (.i .i64), .d (.s), .d (.l)], .ptr 64 0, .d (.b), .d (.i .i64), .ptr 320 0, .d (.b), .d (.b), .d (.l), .d (.i .i64), .d (.i .i64), .d (.b), .d (.b)], [(64, .box [.d (.i .i64), .d (.i .i64), .d (.i .i64), .d (.i .i64), .d (.s), .d (.l)]), (320, .box [.d (.i .i64), .d (.s)])]⟩
def X47o2e2 : TSt := ⟨[.agg [.d (.i .i64), .d (.i .i64), .d (.i .i64), .d (.i .i64), .d (.s), .d (.l)], .ptr 64 0, .d (.b), .d (.i .i64), .undef, .d (.b), .d (.b), .d (.l), .d (.i .i64), .d (.i .i64), .d (.b), .any], [(64, .box [.d (.i .i64), .d (.i .i64), .d (.i .i64), .d (.i .i64), .d (.s), .d (.l)])]⟩
def L47o2 (m : Nat) (vs : List Vr) (K : Cont (List DV × List (List D))) : Rs := la47o2 tu46 (vI vs 0) (vI vs 1) (vI vs 2) (vI vs 3) (vS vs 4) (vL vs 5) (vB vs 6) (vB vs 8) (vB vs 9) (vL vs 10) (vI vs 11) (vI vs 15) (vI vs 16) (vI vs 17) (vI vs 18) (vS vs 19) (vL vs 20) (fun n68 n69 b70 b71 n72 s73 => K .ret (fillS X47o2e1 [.i (vI vs 0), .i (vI vs 1), .i (vI vs 2), .i (vI vs 3), .s (vS vs 4), .l (vL vs 5), .b (false), .i (n68), .b (vB vs 8), .b (vB vs 9), .l (vL vs 10), .i (vI vs 11), .i (n69), .b (b70), .b (b71), .i (vI vs 15), .i (vI vs 16), .i (vI vs 17), .i (vI vs 18), .s (vS vs 19), .l (vL vs 20), .i (n72), .s (s73)])) (fun n74 n75 b76 v77 => K (.exit 0) (fillS X47o2e2 [.i (vI vs 0), .i (vI vs 1), .i (vI vs 2), .i (vI vs 3), .s (vS vs 4), .l (vL vs 5), .b (vB vs 6), .i (n74), .b (vB vs 8), .b (vB vs 9), .l (vL vs 10), .i (vI vs 11), .i (n75), .b (b76), .v (v77), .i (vI vs 15), .i (vI vs 16), .i (vI vs 17), .i (vI vs 18), .s (vS vs 19), .l (vL vs 20)])) m (vI vs 7) (vI vs 12) (vV vs 13) (vV vs 14)
def ST47 : List (Nat × (St → Cont (List DV × List (List D)) → Rs)) := [(2, sumT T47o2 (L47o2 KK))]
noncomputable def b47o2 : Code := match nodeAt c47 2 with | some (.loop a) => a | _ => .skip
theorem q47o2 : ∀ m vs K, L47o2 (m + 1) vs K = denK C47 (lkS ST47) b47o2 3 (fillS T47o2 vs) (loopK T47o2 (L47o2 m) K) := fun m vs K => by kernel_rfl
theorem o47o2 : SumOk C47 KK (sumT T47o2 (L47o2 KK)) (.loop b47o2) := loop_ok T47o2 L47o2 (sums_of (t := ST47) ⟨fun _ _ h => absurd h (by decide), trivial⟩) (fun _ _ => rfl) q47o2
theorem r47 : ∀ vs, tw47 vs = bodyK C47 (lkS ST47) Try.f47 (sig 47) c47 (fillAs A47 0 vs) := fun vs => by kernel_rfl
theorem ok47 : ∀ xs q, opt (th47 xs) = some q → evalBody Try.prog sig (Gd G dep (dep 47)) KK 47 xs = some q := fun xs q h => body_ok Try.func47 (c := c47) rfl A47 tw47 (sums_of (C := C47) (t := ST47) ⟨sum_in (c' := .loop b47o2) (by kernel_rfl) (o47o2), trivial⟩) r47 (by rw [← tpw47]; exact opt_gOf h)
noncomputable def C49 : Ctx := ⟨Try.prog, sig, Gd G dep (dep 49), (sig 49).keep, (sig 49).ord⟩
noncomputable def c49 : Code := Try.f49.body.getD .skip
def ST49 : List (Nat × (St → Cont (List DV × List (List D)) → Rs)) := []
theorem r49 : ∀ vs, tw49 vs = bodyK C49 (lkS ST49) Try.f49 (sig 49) c49 (fillAs A49 0 vs) := fun vs => by kernel_rfl
theorem ok49 : ∀ xs q, opt (th49 xs) = some q → evalBody Try.prog sig (Gd G dep (dep 49)) KK 49 xs = some q := fun xs q h => body_ok Try.func49 (c := c49) rfl A49 tw49 (sums_of (C := C49) (t := ST49) trivial) r49 (by rw [← tpw49]; exact opt_gOf h)
noncomputable def C88 : Ctx := ⟨Try.prog, sig, Gd G dep (dep 88), (sig 88).keep, (sig 88).ord⟩
noncomputable def c88 : Code := Try.f88.body.getD .skip
def T88o0 : TSt := ⟨[.d (.l), .d (.i .i64), .d (.i .i64), .any, .d (.i .i64), .d (.i .i64), .any, .any], []⟩
def X88o0e1 : TSt := ⟨[.d (.l), .d (.i .i64), .d (.i .i64), .d (.i .i64), .d (.i .i64), .d (.i .i64), .d (.b), .d (.b)], []⟩
def X88o0e2 : TSt := ⟨[.d (.l), .d (.i .i64), .d (.i .i64), .any, .d (.i .i64), .d (.i .i64), .d (.b), .any], []⟩
def L88o0 (m : Nat) (vs : List Vr) (K : Cont (List DV × List (List D))) : Rs := l88o0 (vL vs 0) (vI vs 1) (vI vs 2) (vI vs 4) (fun n24 b25 b26 => K .ret (fillS X88o0e1 [.l (vL vs 0), .i (vI vs 1), .i (n24), .i (n24), .i (vI vs 4), .i (n24), .b (b25), .b (b26)])) (fun v27 n28 b29 v30 => K (.exit 0) (fillS X88o0e2 [.l (vL vs 0), .i (vI vs 1), .i (vI vs 2), .v (v27), .i (vI vs 4), .i (n28), .b (b29), .v (v30)])) m (vV vs 3) (vI vs 5) (vV vs 6) (vV vs 7)
def ST88 : List (Nat × (St → Cont (List DV × List (List D)) → Rs)) := [(0, sumT T88o0 (L88o0 KK))]
noncomputable def b88o0 : Code := match nodeAt c88 0 with | some (.loop a) => a | _ => .skip
theorem q88o0 : ∀ m vs K, L88o0 (m + 1) vs K = denK C88 (lkS ST88) b88o0 1 (fillS T88o0 vs) (loopK T88o0 (L88o0 m) K) := fun m vs K => by kernel_rfl
theorem o88o0 : SumOk C88 KK (sumT T88o0 (L88o0 KK)) (.loop b88o0) := loop_ok T88o0 L88o0 (sums_of (t := ST88) ⟨fun _ _ h => absurd h (by decide), trivial⟩) (fun _ _ => rfl) q88o0
theorem r88 : ∀ vs, tw88 vs = bodyK C88 (lkS ST88) Try.f88 (sig 88) c88 (fillAs A88 0 vs) := fun vs => by kernel_rfl
theorem ok88 : ∀ xs q, opt (th88 xs) = some q → evalBody Try.prog sig (Gd G dep (dep 88)) KK 88 xs = some q := fun xs q h => body_ok Try.func88 (c := c88) rfl A88 tw88 (sums_of (C := C88) (t := ST88) ⟨sum_in (c' := .loop b88o0) (by kernel_rfl) (o88o0), trivial⟩) r88 (by rw [← tpw88]; exact opt_gOf h)
noncomputable def C76 : Ctx := ⟨Try.prog, sig, Gd G dep (dep 76), (sig 76).keep, (sig 76).ord⟩
noncomputable def c76 : Code := Try.f76.body.getD .skip
def ST76 : List (Nat × (St → Cont (List DV × List (List D)) → Rs)) := []
theorem r76 : ∀ vs, tw76 vs = bodyK C76 (lkS ST76) Try.f76 (sig 76) c76 (fillAs A76 0 vs) := fun vs => by kernel_rfl
theorem ok76 : ∀ xs q, opt (th76 xs) = some q → evalBody Try.prog sig (Gd G dep (dep 76)) KK 76 xs = some q := fun xs q h => body_ok Try.func76 (c := c76) rfl A76 tw76 (sums_of (C := C76) (t := ST76) trivial) r76 (by rw [← tpw76]; exact opt_gOf h)
noncomputable def C77 : Ctx := ⟨Try.prog, sig, Gd G dep (dep 77), (sig 77).keep, (sig 77).ord⟩
noncomputable def c77 : Code := Try.f77.body.getD .skip
def ST77 : List (Nat × (St → Cont (List DV × List (List D)) → Rs)) := []
theorem r77 : ∀ vs, tw77 vs = bodyK C77 (lkS ST77) Try.f77 (sig 77) c77 (fillAs A77 0 vs) := fun vs => by kernel_rfl
theorem ok77 : ∀ xs q, opt (th77 xs) = some q → evalBody Try.prog sig (Gd G dep (dep 77)) KK 77 xs = some q := fun xs q h => body_ok Try.func77 (c := c77) rfl A77 tw77 (sums_of (C := C77) (t := ST77) trivial) r77 (by rw [← tpw77]; exact opt_gOf h)
noncomputable def C50 : Ctx := ⟨Try.prog, sig, Gd G dep (dep 50), (sig 50).keep, (sig 50).ord⟩
noncomputable def c50 : Code := Try.f50.body.getD .skip
def T50o0 : TSt := ⟨[.pv [.i .i64, .i .i64, .i .i64, .i .i64, .i .i64, .i .i64, .i .i64, .i .i64, .l, .i .i64, .l, .l, .l] 0, .d (.b), .any, .any, .d (.l), .d (.i .i64), .d (.i .i64), .any, .any], []⟩
def X50o0e1 : TSt := ⟨[.pv [.i .i64, .i .i64, .i .i64, .i .i64, .i .i64, .i .i64, .i .i64, .i .i64, .l, .i .i64, .l, .l, .l] 0, .d (.b), .d (.i .i64), .d (.i .i64), .d (.l), .d (.i .i64), .d (.i .i64), .d (.b), .d (.b)], []⟩
def X50o0e2 : TSt := ⟨[.pv [.i .i64, .i .i64, .i .i64, .i .i64, .i .i64, .i .i64, .i .i64, .i .i64, .l, .i .i64, .l, .l, .l] 0, .d (.b), .any, .any, .d (.l), .d (.i .i64), .d (.i .i64), .d (.b), .any], []⟩
def L50o0 (m : Nat) (vs : List Vr) (K : Cont (List DV × List (List D))) : Rs := la50o0 tu46 tu76 tu77 (vI vs 0) (vI vs 1) (vI vs 2) (vI vs 3) (vI vs 4) (vI vs 5) (vI vs 6) (vI vs 7) (vL vs 8) (vI vs 9) (vL vs 10) (vL vs 11) (vL vs 12) (vB vs 13) (vL vs 16) (vI vs 17) (fun n73 n74 b75 b76 => K .ret (fillS X50o0e1 [.i (vI vs 0), .i (vI vs 1), .i (vI vs 2), .i (vI vs 3), .i (vI vs 4), .i (vI vs 5), .i (vI vs 6), .i (vI vs 7), .l (vL vs 8), .i (vI vs 9), .l (vL vs 10), .l (vL vs 11), .l (vL vs 12), .b (false), .i (n73), .i (n74), .l (vL vs 16), .i (vI vs 17), .i (n73), .b (b75), .b (b76)])) (fun v77 v78 n79 b80 v81 => K (.exit 0) (fillS X50o0e2 [.i (vI vs 0), .i (vI vs 1), .i (vI vs 2), .i (vI vs 3), .i (vI vs 4), .i (vI vs 5), .i (vI vs 6), .i (vI vs 7), .l (vL vs 8), .i (vI vs 9), .l (vL vs 10), .l (vL vs 11), .l (vL vs 12), .b (vB vs 13), .v (v77), .v (v78), .l (vL vs 16), .i (vI vs 17), .i (n79), .b (b80), .v (v81)])) m (vV vs 14) (vV vs 15) (vI vs 18) (vV vs 19) (vV vs 20)
def ST50 : List (Nat × (St → Cont (List DV × List (List D)) → Rs)) := [(0, sumT T50o0 (L50o0 KK))]
noncomputable def b50o0 : Code := match nodeAt c50 0 with | some (.loop a) => a | _ => .skip
theorem q50o0 : ∀ m vs K, L50o0 (m + 1) vs K = denK C50 (lkS ST50) b50o0 1 (fillS T50o0 vs) (loopK T50o0 (L50o0 m) K) := fun m vs K => by kernel_rfl
theorem o50o0 : SumOk C50 KK (sumT T50o0 (L50o0 KK)) (.loop b50o0) := loop_ok T50o0 L50o0 (sums_of (t := ST50) ⟨fun _ _ h => absurd h (by decide), trivial⟩) (fun _ _ => rfl) q50o0
theorem r50 : ∀ vs, tw50 vs = bodyK C50 (lkS ST50) Try.f50 (sig 50) c50 (fillAs A50 0 vs) := fun vs => by kernel_rfl
theorem ok50 : ∀ xs q, opt (th50 xs) = some q → evalBody Try.prog sig (Gd G dep (dep 50)) KK 50 xs = some q := fun xs q h => body_ok Try.func50 (c := c50) rfl A50 tw50 (sums_of (C := C50) (t := ST50) ⟨sum_in (c' := .loop b50o0) (by kernel_rfl) (o50o0), trivial⟩) r50 (by rw [← tpw50]; exact opt_gOf h)
noncomputable def C51 : Ctx := ⟨Try.prog, sig, Gd G dep (dep 51), (sig 51).keep, (sig 51).ord⟩
noncomputable def c51 : Code := Try.f51.body.getD .skip
def T51o1 : TSt := ⟨[.pv [.i .i64, .i .i64, .i .i64, .i .i64, .i .i64, .i .i64, .i .i64, .i .i64, .l, .i .i64, .l, .l, .l] 0, .d (.b), .any, .any, .d (.b), .d (.l), .d (.i .i64), .d (.i .i64), .any, .any], []⟩
def X51o1e1 : TSt := ⟨[.pv [.i .i64, .i .i64, .i .i64, .i .i64, .i .i64, .i .i64, .i .i64, .i .i64, .l, .i .i64, .l, .l, .l] 0, .d (.b), .d (.i .i64), .d (.i .i64), .d (.b), .d (.l), .d (.i .i64), .d (.i .i64), .d (.b), .d (.b)], []⟩
def X51o1e2 : TSt := ⟨[.pv [.i .i64, .i .i64, .i .i64, .i .i64, .i .i64, .i .i64, .i .i64, .i .i64, .l, .i .i64, .l, .l, .l] 0, .d (.b), .any, .any, .d (.b), .d (.l), .d (.i .i64), .d (.i .i64), .d (.b), .any], []⟩
def L51o1 (m : Nat) (vs : List Vr) (K : Cont (List DV × List (List D))) : Rs := la51o1 tu49 (vI vs 0) (vI vs 1) (vI vs 2) (vI vs 3) (vI vs 4) (vI vs 5) (vI vs 6) (vI vs 7) (vL vs 8) (vI vs 9) (vL vs 10) (vL vs 11) (vL vs 12) (vB vs 13) (vB vs 16) (vL vs 17) (vI vs 18) (fun n76 n77 b78 b79 => K .ret (fillS X51o1e1 [.i (vI vs 0), .i (vI vs 1), .i (vI vs 2), .i (vI vs 3), .i (vI vs 4), .i (vI vs 5), .i (vI vs 6), .i (vI vs 7), .l (vL vs 8), .i (vI vs 9), .l (vL vs 10), .l (vL vs 11), .l (vL vs 12), .b (false), .i (n76), .i (n77), .b (vB vs 16), .l (vL vs 17), .i (vI vs 18), .i (n76), .b (b78), .b (b79)])) (fun v80 v81 n82 b83 v84 => K (.exit 0) (fillS X51o1e2 [.i (vI vs 0), .i (vI vs 1), .i (vI vs 2), .i (vI vs 3), .i (vI vs 4), .i (vI vs 5), .i (vI vs 6), .i (vI vs 7), .l (vL vs 8), .i (vI vs 9), .l (vL vs 10), .l (vL vs 11), .l (vL vs 12), .b (vB vs 13), .v (v80), .v (v81), .b (vB vs 16), .l (vL vs 17), .i (vI vs 18), .i (n82), .b (b83), .v (v84)])) m (vV vs 14) (vV vs 15) (vI vs 19) (vV vs 20) (vV vs 21)
def ST51 : List (Nat × (St → Cont (List DV × List (List D)) → Rs)) := [(1, sumT T51o1 (L51o1 KK))]
noncomputable def b51o1 : Code := match nodeAt c51 1 with | some (.loop a) => a | _ => .skip
theorem q51o1 : ∀ m vs K, L51o1 (m + 1) vs K = denK C51 (lkS ST51) b51o1 2 (fillS T51o1 vs) (loopK T51o1 (L51o1 m) K) := fun m vs K => by kernel_rfl
theorem o51o1 : SumOk C51 KK (sumT T51o1 (L51o1 KK)) (.loop b51o1) := loop_ok T51o1 L51o1 (sums_of (t := ST51) ⟨fun _ _ h => absurd h (by decide), trivial⟩) (fun _ _ => rfl) q51o1
theorem r51 : ∀ vs, tw51 vs = bodyK C51 (lkS ST51) Try.f51 (sig 51) c51 (fillAs A51 0 vs) := fun vs => by kernel_rfl
theorem ok51 : ∀ xs q, opt (th51 xs) = some q → evalBody Try.prog sig (Gd G dep (dep 51)) KK 51 xs = some q := fun xs q h => body_ok Try.func51 (c := c51) rfl A51 tw51 (sums_of (C := C51) (t := ST51) ⟨sum_in (c' := .loop b51o1) (by kernel_rfl) (o51o1), trivial⟩) r51 (by rw [← tpw51]; exact opt_gOf h)
noncomputable def C13 : Ctx := ⟨Try.prog, sig, Gd G dep (dep 13), (sig 13).keep, (sig 13).ord⟩
noncomputable def c13 : Code := Try.f13.body.getD .skip
def ST13 : List (Nat × (St → Cont (List DV × List (List D)) → Rs)) := []
theorem r13 : ∀ vs, tw13 vs = bodyK C13 (lkS ST13) Try.f13 (sig 13) c13 (fillAs A13 0 vs) := fun vs => by kernel_rfl
theorem ok13 : ∀ xs q, opt (th13 xs) = some q → evalBody Try.prog sig (Gd G dep (dep 13)) KK 13 xs = some q := fun xs q h => body_ok Try.func13 (c := c13) rfl A13 tw13 (sums_of (C := C13) (t := ST13) trivial) r13 (by rw [← tpw13]; exact opt_gOf h)
noncomputable def C79 : Ctx := ⟨Try.prog, sig, Gd G dep (dep 79), (sig 79).keep, (sig 79).ord⟩
noncomputable def c79 : Code := Try.f79.body.getD .skip
def ST79 : List (Nat × (St → Cont (List DV × List (List D)) → Rs)) := []
theorem r79 : ∀ vs, tw79 vs = bodyK C79 (lkS ST79) Try.f79 (sig 79) c79 (fillAs A79 0 vs) := fun vs => by kernel_rfl
theorem ok79 : ∀ xs q, opt (th79 xs) = some q → evalBody Try.prog sig (Gd G dep (dep 79)) KK 79 xs = some q := fun xs q h => body_ok Try.func79 (c := c79) rfl A79 tw79 (sums_of (C := C79) (t := ST79) trivial) r79 (by rw [← tpw79]; exact opt_gOf h)
noncomputable def C63 : Ctx := ⟨Try.prog, sig, Gd G dep (dep 63), (sig 63).keep, (sig 63).ord⟩
noncomputable def c63 : Code := Try.f63.body.getD .skip
def ST63 : List (Nat × (St → Cont (List DV × List (List D)) → Rs)) := []
theorem r63 : ∀ vs, tw63 vs = bodyK C63 (lkS ST63) Try.f63 (sig 63) c63 (fillAs A63 0 vs) := fun vs => by kernel_rfl
theorem ok63 : ∀ xs q, opt (th63 xs) = some q → evalBody Try.prog sig (Gd G dep (dep 63)) KK 63 xs = some q := fun xs q h => body_ok Try.func63 (c := c63) rfl A63 tw63 (sums_of (C := C63) (t := ST63) trivial) r63 (by rw [← tpw63]; exact opt_gOf h)
noncomputable def C84 : Ctx := ⟨Try.prog, sig, Gd G dep (dep 84), (sig 84).keep, (sig 84).ord⟩
noncomputable def c84 : Code := Try.f84.body.getD .skip
def ST84 : List (Nat × (St → Cont (List DV × List (List D)) → Rs)) := []
theorem r84 : ∀ vs, tw84 vs = bodyK C84 (lkS ST84) Try.f84 (sig 84) c84 (fillAs A84 0 vs) := fun vs => by kernel_rfl
theorem ok84 : ∀ xs q, opt (th84 xs) = some q → evalBody Try.prog sig (Gd G dep (dep 84)) KK 84 xs = some q := fun xs q h => body_ok Try.func84 (c := c84) rfl A84 tw84 (sums_of (C := C84) (t := ST84) trivial) r84 (by rw [← tpw84]; exact opt_gOf h)
noncomputable def C85 : Ctx := ⟨Try.prog, sig, Gd G dep (dep 85), (sig 85).keep, (sig 85).ord⟩
noncomputable def c85 : Code := Try.f85.body.getD .skip
def ST85 : List (Nat × (St → Cont (List DV × List (List D)) → Rs)) := []
theorem r85 : ∀ vs, tw85 vs = bodyK C85 (lkS ST85) Try.f85 (sig 85) c85 (fillAs A85 0 vs) := fun vs => by kernel_rfl
theorem ok85 : ∀ xs q, opt (th85 xs) = some q → evalBody Try.prog sig (Gd G dep (dep 85)) KK 85 xs = some q := fun xs q h => body_ok Try.func85 (c := c85) rfl A85 tw85 (sums_of (C := C85) (t := ST85) trivial) r85 (by rw [← tpw85]; exact opt_gOf h)
noncomputable def C64 : Ctx := ⟨Try.prog, sig, Gd G dep (dep 64), (sig 64).keep, (sig 64).ord⟩
noncomputable def c64 : Code := Try.f64.body.getD .skip
def ST64 : List (Nat × (St → Cont (List DV × List (List D)) → Rs)) := []
theorem r64 : ∀ vs, tw64 vs = bodyK C64 (lkS ST64) Try.f64 (sig 64) c64 (fillAs A64 0 vs) := fun vs => by kernel_rfl
theorem ok64 : ∀ xs q, opt (th64 xs) = some q → evalBody Try.prog sig (Gd G dep (dep 64)) KK 64 xs = some q := fun xs q h => body_ok Try.func64 (c := c64) rfl A64 tw64 (sums_of (C := C64) (t := ST64) trivial) r64 (by rw [← tpw64]; exact opt_gOf h)
noncomputable def C86 : Ctx := ⟨Try.prog, sig, Gd G dep (dep 86), (sig 86).keep, (sig 86).ord⟩
noncomputable def c86 : Code := Try.f86.body.getD .skip
def T86o100002 : TSt := ⟨[.ptr 0 0, .d (.i .i64), .d (.i .i64), .any, .d (.b), .own 13, .d (.i .i64), .d (.i .i64), .any, .any, .any], [(0, .box [.d (.i .i64), .d (.i .i64), .d (.i .i64), .d (.i .i64), .d (.i .i64), .d (.i .i64), .d (.i .i64), .d (.i .i64), .own 9, .d (.i .i64), .own 11, .own 12, .own 13]), (9, .row 92 2), (11, .row 3 1), (12, .row 3 1), (13, .row 3 1)]⟩
def X86o100002e1 : TSt := ⟨[.ptr 0 0, .d (.i .i64), .d (.i .i64), .any, .d (.b), .own 13, .d (.i .i64), .d (.i .i64), .d (.b), .any, .any], [(0, .box [.d (.i .i64), .d (.i .i64), .d (.i .i64), .d (.i .i64), .d (.i .i64), .d (.i .i64), .d (.i .i64), .d (.i .i64), .own 9, .d (.i .i64), .own 11, .own 12, .own 13]), (9, .row 92 2), (11, .row 3 1), (12, .row 3 1), (13, .row 3 1)]⟩
def L86o100002 (m : Nat) (vs : List Vr) (K : Cont (List DV × List (List D))) : Rs := la86o100002 tu49 tu64 tu77 (vI vs 0) (vB vs 3) (vI vs 4) (vI vs 9) (vI vs 10) (vI vs 11) (vI vs 12) (vI vs 13) (vI vs 14) (vI vs 15) (vI vs 16) (vI vs 17) (vL vs 18) (vL vs 19) (vL vs 20) (vL vs 21) (fun n191 v192 n193 b194 v195 v196 => K (.exit 2) (fillS X86o100002e1 [.i (vI vs 0), .i (n191), .v (v192), .b (vB vs 3), .i (vI vs 4), .i (n193), .b (b194), .v (v195), .v (v196), .i (vI vs 9), .i (vI vs 10), .i (vI vs 11), .i (vI vs 12), .i (vI vs 13), .i (vI vs 14), .i (vI vs 15), .i (vI vs 16), .i (vI vs 17), .l (vL vs 18), .l (vL vs 19), .l (vL vs 20), .l (vL vs 21)])) m (vI vs 1) (vV vs 2) (vI vs 5) (vV vs 6) (vV vs 7) (vV vs 8)
def T86o0 : TSt := ⟨[.ptr 0 0, .d (.i .i64), .any, .any, .any, .any, .any, .any, .any, .any, .any], [(0, .box [.d (.i .i64), .d (.i .i64), .d (.i .i64), .d (.i .i64), .d (.i .i64), .d (.i .i64), .d (.i .i64), .d (.i .i64), .own 9, .d (.i .i64), .own 11, .own 12, .own 13]), (9, .row 92 2), (11, .row 3 1), (12, .row 3 1), (13, .row 3 1)]⟩
def X86o0e1 : TSt := ⟨[.ptr 0 0, .d (.i .i64), .d (.i .i64), .any, .d (.b), .own 13, .d (.i .i64), .d (.i .i64), .d (.b), .any, .d (.b)], [(0, .box [.d (.i .i64), .d (.i .i64), .d (.i .i64), .d (.i .i64), .d (.i .i64), .d (.i .i64), .d (.i .i64), .d (.i .i64), .own 9, .d (.i .i64), .own 11, .own 12, .own 13]), (9, .row 92 2), (11, .row 3 1), (12, .row 3 1), (13, .row 3 1)]⟩
def X86o0e2 : TSt := ⟨[.ptr 0 0, .d (.i .i64), .any, .any, .d (.b), .any, .any, .any, .any, .any, .any], [(0, .box [.d (.i .i64), .d (.i .i64), .d (.i .i64), .d (.i .i64), .d (.i .i64), .d (.i .i64), .d (.i .i64), .d (.i .i64), .own 9, .d (.i .i64), .own 11, .own 12, .own 13]), (9, .row 92 2), (11, .row 3 1), (12, .row 3 1), (13, .row 3 1)]⟩
def L86o0 (m : Nat) (vs : List Vr) (K : Cont (List DV × List (List D))) : Rs := la86o0 tu49 tu64 tu77 (vI vs 10) (vI vs 11) (vI vs 12) (vI vs 13) (vI vs 14) (vI vs 15) (vI vs 16) (vI vs 17) (vI vs 18) (vL vs 19) (vL vs 20) (vL vs 21) (vL vs 22) (fun n226 n227 v228 b229 n230 n231 b232 v233 b234 => K .ret (fillS X86o0e1 [.i (n226), .i (n227), .v (v228), .b (b229), .i (n230), .i (n231), .b (b232), .v (v233), .b (b234), .i (vI vs 10), .i (vI vs 11), .i (vI vs 12), .i (vI vs 13), .i (vI vs 14), .i (vI vs 15), .i (vI vs 16), .i (vI vs 17), .i (n226), .l (vL vs 19), .l (vL vs 20), .l (vL vs 21), .l (vL vs 22)])) (fun n235 v236 v237 b238 v239 v240 v241 v242 v243 v244 => K (.exit 0) (fillS X86o0e2 [.i (n235), .v (v236), .v (v237), .b (b238), .v (v239), .v (v240), .v (v241), .v (v242), .v (v243), .v (v244), .i (vI vs 10), .i (vI vs 11), .i (vI vs 12), .i (vI vs 13), .i (vI vs 14), .i (vI vs 15), .i (vI vs 16), .i (vI vs 17), .i (vI vs 18), .l (vL vs 19), .l (vL vs 20), .l (vL vs 21), .l (vL vs 22)])) m (vI vs 0) (vV vs 1) (vV vs 2) (vV vs 3) (vV vs 4) (vV vs 5) (vV vs 6) (vV vs 7) (vV vs 8) (vV vs 9)
def ST86 : List (Nat × (St → Cont (List DV × List (List D)) → Rs)) := [(2, sumT T86o100002 (L86o100002 KK)), (0, sumT T86o0 (L86o0 KK))]
noncomputable def b86o2 : Code := match nodeAt c86 2 with | some (.loop a) => a | _ => .skip
noncomputable def b86o0 : Code := match nodeAt c86 0 with | some (.loop a) => a | _ => .skip
theorem q86o100002 : ∀ m vs K, L86o100002 (m + 1) vs K = denK C86 (lkS ST86) b86o2 3 (fillS T86o100002 vs) (loopK T86o100002 (L86o100002 m) K) := fun m vs K => by kernel_rfl
theorem o86o100002 : SumOk C86 KK (sumT T86o100002 (L86o100002 KK)) (.loop b86o2) := loop_ok T86o100002 L86o100002 (sums_of (t := ST86) ⟨fun _ _ h => absurd h (by decide), fun _ _ h => absurd h (by decide), trivial⟩) (fun _ _ => rfl) q86o100002
theorem q86o0 : ∀ m vs K, L86o0 (m + 1) vs K = denK C86 (lkS ST86) b86o0 1 (fillS T86o0 vs) (loopK T86o0 (L86o0 m) K) := fun m vs K => by kernel_rfl
theorem o86o0 : SumOk C86 KK (sumT T86o0 (L86o0 KK)) (.loop b86o0) := loop_ok T86o0 L86o0 (sums_of (t := ST86) ⟨sum_in (c' := .loop b86o2) (by kernel_rfl) (o86o100002), fun _ _ h => absurd h (by decide), trivial⟩) (fun _ _ => rfl) q86o0
theorem r86 : ∀ vs, tw86 vs = bodyK C86 (lkS ST86) Try.f86 (sig 86) c86 (fillAs A86 0 vs) := fun vs => by kernel_rfl
theorem ok86 : ∀ xs q, opt (th86 xs) = some q → evalBody Try.prog sig (Gd G dep (dep 86)) KK 86 xs = some q := fun xs q h => body_ok Try.func86 (c := c86) rfl A86 tw86 (sums_of (C := C86) (t := ST86) ⟨sum_in (c' := .loop b86o2) (by kernel_rfl) (o86o100002), sum_in (c' := .loop b86o0) (by kernel_rfl) (o86o0), trivial⟩) r86 (by rw [← tpw86]; exact opt_gOf h)
noncomputable def C81 : Ctx := ⟨Try.prog, sig, Gd G dep (dep 81), (sig 81).keep, (sig 81).ord⟩
noncomputable def c81 : Code := Try.f81.body.getD .skip
def T81o0 : TSt := ⟨[.pv [.i .i64, .i .i64, .i .i64, .i .i64, .i .i64, .i .i64, .i .i64, .i .i64, .l, .i .i64, .l, .l, .l] 0, .nils, .own 320, .any, .d (.i .i64), .d (.i .i64), .any, .any], [(320, .row 3 1)]⟩
def X81o0e1 : TSt := ⟨[.pv [.i .i64, .i .i64, .i .i64, .i .i64, .i .i64, .i .i64, .i .i64, .i .i64, .l, .i .i64, .l, .l, .l] 0, .nils, .own 320, .any, .d (.i .i64), .d (.i .i64), .d (.b), .any], [(320, .row 3 1)]⟩
def L81o0 (m : Nat) (vs : List Vr) (K : Cont (List DV × List (List D))) : Rs := l81o0 (vI vs 0) (vI vs 1) (vI vs 2) (vI vs 3) (vI vs 4) (vI vs 5) (vI vs 6) (vI vs 7) (vL vs 8) (vI vs 9) (vL vs 10) (vL vs 11) (vL vs 12) (vI vs 14) (fun v70 n71 b72 v73 l74 => K (.exit 0) (fillS X81o0e1 [.i (vI vs 0), .i (vI vs 1), .i (vI vs 2), .i (vI vs 3), .i (vI vs 4), .i (vI vs 5), .i (vI vs 6), .i (vI vs 7), .l (vL vs 8), .i (vI vs 9), .l (vL vs 10), .l (vL vs 11), .l (vL vs 12), .v (v70), .i (vI vs 14), .i (n71), .b (b72), .v (v73), .l (l74)])) m (vV vs 13) (vI vs 15) (vV vs 16) (vV vs 17) (vL vs 18)
def ST81 : List (Nat × (St → Cont (List DV × List (List D)) → Rs)) := [(0, sumT T81o0 (L81o0 KK))]
noncomputable def b81o0 : Code := match nodeAt c81 0 with | some (.loop a) => a | _ => .skip
theorem q81o0 : ∀ m vs K, L81o0 (m + 1) vs K = denK C81 (lkS ST81) b81o0 1 (fillS T81o0 vs) (loopK T81o0 (L81o0 m) K) := fun m vs K => by kernel_rfl
theorem o81o0 : SumOk C81 KK (sumT T81o0 (L81o0 KK)) (.loop b81o0) := loop_ok T81o0 L81o0 (sums_of (t := ST81) ⟨fun _ _ h => absurd h (by decide), trivial⟩) (fun _ _ => rfl) q81o0
theorem r81 : ∀ vs, tw81 vs = bodyK C81 (lkS ST81) Try.f81 (sig 81) c81 (fillAs A81 0 vs) := fun vs => by kernel_rfl
theorem ok81 : ∀ xs q, opt (th81 xs) = some q → evalBody Try.prog sig (Gd G dep (dep 81)) KK 81 xs = some q := fun xs q h => body_ok Try.func81 (c := c81) rfl A81 tw81 (sums_of (C := C81) (t := ST81) ⟨sum_in (c' := .loop b81o0) (by kernel_rfl) (o81o0), trivial⟩) r81 (by rw [← tpw81]; exact opt_gOf h)
noncomputable def C82 : Ctx := ⟨Try.prog, sig, Gd G dep (dep 82), (sig 82).keep, (sig 82).ord⟩
noncomputable def c82 : Code := Try.f82.body.getD .skip
def ST82 : List (Nat × (St → Cont (List DV × List (List D)) → Rs)) := []
theorem r82 : ∀ vs, tw82 vs = bodyK C82 (lkS ST82) Try.f82 (sig 82) c82 (fillAs A82 0 vs) := fun vs => by kernel_rfl
theorem ok82 : ∀ xs q, opt (th82 xs) = some q → evalBody Try.prog sig (Gd G dep (dep 82)) KK 82 xs = some q := fun xs q h => body_ok Try.func82 (c := c82) rfl A82 tw82 (sums_of (C := C82) (t := ST82) trivial) r82 (by rw [← tpw82]; exact opt_gOf h)
noncomputable def C66 : Ctx := ⟨Try.prog, sig, Gd G dep (dep 66), (sig 66).keep, (sig 66).ord⟩
noncomputable def c66 : Code := Try.f66.body.getD .skip
def T66o0 : TSt := ⟨[.pv [.i .i64, .i .i64, .i .i64, .i .i64, .i .i64, .i .i64, .i .i64, .i .i64, .l, .i .i64, .l, .l, .l] 0, .nils, .own 384, .any, .own 512, .d (.i .i64), .d (.i .i64), .any], [(384, .row 83 10), (512, .row 3 1)]⟩
def X66o0e1 : TSt := ⟨[.pv [.i .i64, .i .i64, .i .i64, .i .i64, .i .i64, .i .i64, .i .i64, .i .i64, .l, .i .i64, .l, .l, .l] 0, .nils, .own 384, .any, .own 512, .d (.i .i64), .d (.i .i64), .d (.b)], [(384, .row 83 10), (512, .row 3 1)]⟩
def L66o0 (m : Nat) (vs : List Vr) (K : Cont (List DV × List (List D))) : Rs := la66o0 tu81 tu82 (vI vs 0) (vI vs 1) (vI vs 2) (vI vs 3) (vI vs 4) (vI vs 5) (vI vs 6) (vI vs 7) (vL vs 8) (vI vs 9) (vL vs 10) (vL vs 11) (vL vs 12) (vI vs 14) (vL vs 18) (fun v69 n70 b71 l72 => K (.exit 0) (fillS X66o0e1 [.i (vI vs 0), .i (vI vs 1), .i (vI vs 2), .i (vI vs 3), .i (vI vs 4), .i (vI vs 5), .i (vI vs 6), .i (vI vs 7), .l (vL vs 8), .i (vI vs 9), .l (vL vs 10), .l (vL vs 11), .l (vL vs 12), .v (v69), .i (vI vs 14), .i (n70), .b (b71), .l (l72), .l (vL vs 18)])) m (vV vs 13) (vI vs 15) (vV vs 16) (vL vs 17)
def ST66 : List (Nat × (St → Cont (List DV × List (List D)) → Rs)) := [(0, sumT T66o0 (L66o0 KK))]
noncomputable def b66o0 : Code := match nodeAt c66 0 with | some (.loop a) => a | _ => .skip
theorem q66o0 : ∀ m vs K, L66o0 (m + 1) vs K = denK C66 (lkS ST66) b66o0 1 (fillS T66o0 vs) (loopK T66o0 (L66o0 m) K) := fun m vs K => by kernel_rfl
theorem o66o0 : SumOk C66 KK (sumT T66o0 (L66o0 KK)) (.loop b66o0) := loop_ok T66o0 L66o0 (sums_of (t := ST66) ⟨fun _ _ h => absurd h (by decide), trivial⟩) (fun _ _ => rfl) q66o0
theorem r66 : ∀ vs, tw66 vs = bodyK C66 (lkS ST66) Try.f66 (sig 66) c66 (fillAs A66 0 vs) := fun vs => by kernel_rfl
theorem ok66 : ∀ xs q, opt (th66 xs) = some q → evalBody Try.prog sig (Gd G dep (dep 66)) KK 66 xs = some q := fun xs q h => body_ok Try.func66 (c := c66) rfl A66 tw66 (sums_of (C := C66) (t := ST66) ⟨sum_in (c' := .loop b66o0) (by kernel_rfl) (o66o0), trivial⟩) r66 (by rw [← tpw66]; exact opt_gOf h)
noncomputable def C87 : Ctx := ⟨Try.prog, sig, Gd G dep (dep 87), (sig 87).keep, (sig 87).ord⟩
noncomputable def c87 : Code := Try.f87.body.getD .skip
def T87o0 : TSt := ⟨[.ptr 0 0, .nils, .any, .d (.i .i64), .d (.i .i64), .any, .undef], [(0, .box [.d (.i .i64), .d (.i .i64), .d (.i .i64), .d (.i .i64), .d (.i .i64), .d (.i .i64), .d (.i .i64), .d (.i .i64), .own 9, .d (.i .i64), .nils, .own 1408, .own 1920]), (9, .row 92 2), (11, .row 3 1), (12, .row 3 1), (13, .row 3 1), (1408, .row 3 1), (1920, .row 3 1)]⟩
def X87o0e1 : TSt := ⟨[.ptr 0 0, .nils, .any, .d (.i .i64), .d (.i .i64), .d (.b), .undef], [(0, .box [.d (.i .i64), .d (.i .i64), .d (.i .i64), .d (.i .i64), .d (.i .i64), .d (.i .i64), .d (.i .i64), .d (.i .i64), .own 9, .d (.i .i64), .nils, .own 1408, .own 1920]), (9, .row 92 2), (11, .row 3 1), (12, .row 3 1), (13, .row 3 1), (1408, .row 3 1), (1920, .row 3 1)]⟩
def L87o0 (m : Nat) (vs : List Vr) (K : Cont (List DV × List (List D))) : Rs := la87o0 tu49 tu66 tu84 tu85 tu86 (vI vs 1) (vI vs 4) (vI vs 5) (vI vs 6) (vI vs 7) (vI vs 8) (vI vs 9) (vI vs 10) (vI vs 11) (vI vs 12) (vL vs 13) (vL vs 14) (vL vs 15) (vL vs 16) (vL vs 18) (fun v69 n70 b71 l72 => K (.exit 0) (fillS X87o0e1 [.v (v69), .i (vI vs 1), .i (n70), .b (b71), .i (vI vs 4), .i (vI vs 5), .i (vI vs 6), .i (vI vs 7), .i (vI vs 8), .i (vI vs 9), .i (vI vs 10), .i (vI vs 11), .i (vI vs 12), .l (vL vs 13), .l (vL vs 14), .l (vL vs 15), .l (vL vs 16), .l (l72), .l (vL vs 18)])) m (vV vs 0) (vI vs 2) (vV vs 3) (vL vs 17)
def ST87 : List (Nat × (St → Cont (List DV × List (List D)) → Rs)) := [(0, sumT T87o0 (L87o0 KK))]
noncomputable def b87o0 : Code := match nodeAt c87 0 with | some (.loop a) => a | _ => .skip
theorem q87o0 : ∀ m vs K, L87o0 (m + 1) vs K = denK C87 (lkS ST87) b87o0 1 (fillS T87o0 vs) (loopK T87o0 (L87o0 m) K) := fun m vs K => by kernel_rfl
theorem o87o0 : SumOk C87 KK (sumT T87o0 (L87o0 KK)) (.loop b87o0) := loop_ok T87o0 L87o0 (sums_of (t := ST87) ⟨fun _ _ h => absurd h (by decide), trivial⟩) (fun _ _ => rfl) q87o0
theorem r87 : ∀ vs, tw87 vs = bodyK C87 (lkS ST87) Try.f87 (sig 87) c87 (fillAs A87 0 vs) := fun vs => by kernel_rfl
theorem ok87 : ∀ xs q, opt (th87 xs) = some q → evalBody Try.prog sig (Gd G dep (dep 87)) KK 87 xs = some q := fun xs q h => body_ok Try.func87 (c := c87) rfl A87 tw87 (sums_of (C := C87) (t := ST87) ⟨sum_in (c' := .loop b87o0) (by kernel_rfl) (o87o0), trivial⟩) r87 (by rw [← tpw87]; exact opt_gOf h)
noncomputable def C72 : Ctx := ⟨Try.prog, sig, Gd G dep (dep 72), (sig 72).keep, (sig 72).ord⟩
noncomputable def c72 : Code := Try.f72.body.getD .skip
def T72o2 : TSt := ⟨[.ptr 0 0, .nils, .own 3200, .any, .d (.b), .d (.b), .own 3328, .d (.i .i64), .d (.i .i64), .any], [(0, .box [.d (.i .i64), .d (.i .i64), .d (.i .i64), .d (.i .i64), .d (.i .i64), .d (.i .i64), .d (.i .i64), .d (.i .i64), .own 9, .d (.i .i64), .own 2752, .own 12, .own 13]), (9, .row 92 2), (11, .row 3 1), (12, .row 3 1), (13, .row 3 1), (2752, .row 3 1), (3200, .row 83 10), (3328, .row 3 1)]⟩
def X72o2e1 : TSt := ⟨[.ptr 0 0, .nils, .own 3200, .any, .d (.b), .d (.b), .own 3328, .d (.i .i64), .d (.i .i64), .d (.b)], [(0, .box [.d (.i .i64), .d (.i .i64), .d (.i .i64), .d (.i .i64), .d (.i .i64), .d (.i .i64), .d (.i .i64), .d (.i .i64), .own 9, .d (.i .i64), .own 2752, .own 12, .own 13]), (9, .row 92 2), (11, .row 3 1), (12, .row 3 1), (13, .row 3 1), (2752, .row 3 1), (3200, .row 83 10), (3328, .row 3 1)]⟩
def L72o2 (m : Nat) (vs : List Vr) (K : Cont (List DV × List (List D))) : Rs := la72o2 tu49 tu64 tu77 tu81 tu87 (vB vs 1) (vB vs 2) (vI vs 3) (vI vs 6) (vI vs 7) (vI vs 8) (vI vs 9) (vI vs 10) (vI vs 11) (vI vs 12) (vI vs 13) (vI vs 14) (vL vs 15) (vL vs 16) (vL vs 17) (vL vs 18) (vL vs 19) (vL vs 21) (fun v78 n79 b80 l81 => K (.exit 0) (fillS X72o2e1 [.v (v78), .b (vB vs 1), .b (vB vs 2), .i (vI vs 3), .i (n79), .b (b80), .i (vI vs 6), .i (vI vs 7), .i (vI vs 8), .i (vI vs 9), .i (vI vs 10), .i (vI vs 11), .i (vI vs 12), .i (vI vs 13), .i (vI vs 14), .l (vL vs 15), .l (vL vs 16), .l (vL vs 17), .l (vL vs 18), .l (vL vs 19), .l (l81), .l (vL vs 21)])) m (vV vs 0) (vI vs 4) (vV vs 5) (vL vs 20)
def ST72 : List (Nat × (St → Cont (List DV × List (List D)) → Rs)) := [(2, sumT T72o2 (L72o2 KK))]
noncomputable def b72o2 : Code := match nodeAt c72 2 with | some (.loop a) => a | _ => .skip
theorem q72o2 : ∀ m vs K, L72o2 (m + 1) vs K = denK C72 (lkS ST72) b72o2 3 (fillS T72o2 vs) (loopK T72o2 (L72o2 m) K) := fun m vs K => by kernel_rfl
theorem o72o2 : SumOk C72 KK (sumT T72o2 (L72o2 KK)) (.loop b72o2) := loop_ok T72o2 L72o2 (sums_of (t := ST72) ⟨fun _ _ h => absurd h (by decide), trivial⟩) (fun _ _ => rfl) q72o2
theorem r72 : ∀ vs, tw72 vs = bodyK C72 (lkS ST72) Try.f72 (sig 72) c72 (fillAs A72 0 vs) := fun vs => by kernel_rfl
theorem ok72 : ∀ xs q, opt (th72 xs) = some q → evalBody Try.prog sig (Gd G dep (dep 72)) KK 72 xs = some q := fun xs q h => body_ok Try.func72 (c := c72) rfl A72 tw72 (sums_of (C := C72) (t := ST72) ⟨sum_in (c' := .loop b72o2) (by kernel_rfl) (o72o2), trivial⟩) r72 (by rw [← tpw72]; exact opt_gOf h)
noncomputable def C36 : Ctx := ⟨Try.prog, sig, Gd G dep (dep 36), (sig 36).keep, (sig 36).ord⟩
noncomputable def c36 : Code := Try.f36.body.getD .skip
def ST36 : List (Nat × (St → Cont (List DV × List (List D)) → Rs)) := []
theorem r36 : ∀ vs, tw36 vs = bodyK C36 (lkS ST36) Try.f36 (sig 36) c36 (fillAs A36 0 vs) := fun vs => by kernel_rfl
theorem ok36 : ∀ xs q, opt (th36 xs) = some q → evalBody Try.prog sig (Gd G dep (dep 36)) KK 36 xs = some q := fun xs q h => body_ok Try.func36 (c := c36) rfl A36 tw36 (sums_of (C := C36) (t := ST36) trivial) r36 (by rw [← tpw36]; exact opt_gOf h)
noncomputable def C78 : Ctx := ⟨Try.prog, sig, Gd G dep (dep 78), (sig 78).keep, (sig 78).ord⟩
noncomputable def c78 : Code := Try.f78.body.getD .skip
def ST78 : List (Nat × (St → Cont (List DV × List (List D)) → Rs)) := []
theorem r78 : ∀ vs, tw78 vs = bodyK C78 (lkS ST78) Try.f78 (sig 78) c78 (fillAs A78 0 vs) := fun vs => by kernel_rfl
theorem ok78 : ∀ xs q, opt (th78 xs) = some q → evalBody Try.prog sig (Gd G dep (dep 78)) KK 78 xs = some q := fun xs q h => body_ok Try.func78 (c := c78) rfl A78 tw78 (sums_of (C := C78) (t := ST78) trivial) r78 (by rw [← tpw78]; exact opt_gOf h)
noncomputable def C52 : Ctx := ⟨Try.prog, sig, Gd G dep (dep 52), (sig 52).keep, (sig 52).ord⟩
noncomputable def c52 : Code := Try.f52.body.getD .skip
def T52o1 : TSt := ⟨[.d (.l), .d (.l), .d (.b), .d (.i .i64), .d (.b), .any, .any], []⟩
def X52o1e1 : TSt := ⟨[.d (.l), .d (.l), .d (.b), .d (.i .i64), .d (.b), .d (.b), .d (.b)], []⟩
def X52o1e2 : TSt := ⟨[.d (.l), .d (.l), .d (.b), .d (.i .i64), .d (.b), .d (.b), .any], []⟩
def L52o1 (m : Nat) (vs : List Vr) (K : Cont (List DV × List (List D))) : Rs := la52o1 tu78 (vL vs 0) (vL vs 1) (vB vs 2) (vB vs 4) (fun n22 b23 b24 => K .ret (fillS X52o1e1 [.l (vL vs 0), .l (vL vs 1), .b (false), .i (n22), .b (vB vs 4), .b (b23), .b (b24)])) (fun n25 b26 v27 => K (.exit 0) (fillS X52o1e2 [.l (vL vs 0), .l (vL vs 1), .b (vB vs 2), .i (n25), .b (vB vs 4), .b (b26), .v (v27)])) m (vI vs 3) (vV vs 5) (vV vs 6)
def ST52 : List (Nat × (St → Cont (List DV × List (List D)) → Rs)) := [(1, sumT T52o1 (L52o1 KK))]
noncomputable def b52o1 : Code := match nodeAt c52 1 with | some (.loop a) => a | _ => .skip
theorem q52o1 : ∀ m vs K, L52o1 (m + 1) vs K = denK C52 (lkS ST52) b52o1 2 (fillS T52o1 vs) (loopK T52o1 (L52o1 m) K) := fun m vs K => by kernel_rfl
theorem o52o1 : SumOk C52 KK (sumT T52o1 (L52o1 KK)) (.loop b52o1) := loop_ok T52o1 L52o1 (sums_of (t := ST52) ⟨fun _ _ h => absurd h (by decide), trivial⟩) (fun _ _ => rfl) q52o1
theorem r52 : ∀ vs, tw52 vs = bodyK C52 (lkS ST52) Try.f52 (sig 52) c52 (fillAs A52 0 vs) := fun vs => by kernel_rfl
theorem ok52 : ∀ xs q, opt (th52 xs) = some q → evalBody Try.prog sig (Gd G dep (dep 52)) KK 52 xs = some q := fun xs q h => body_ok Try.func52 (c := c52) rfl A52 tw52 (sums_of (C := C52) (t := ST52) ⟨sum_in (c' := .loop b52o1) (by kernel_rfl) (o52o1), trivial⟩) r52 (by rw [← tpw52]; exact opt_gOf h)
noncomputable def C53 : Ctx := ⟨Try.prog, sig, Gd G dep (dep 53), (sig 53).keep, (sig 53).ord⟩
noncomputable def c53 : Code := Try.f53.body.getD .skip
def T53o1 : TSt := ⟨[.d (.l), .d (.l), .d (.b), .d (.i .i64), .d (.b), .any, .any], []⟩
def X53o1e1 : TSt := ⟨[.d (.l), .d (.l), .d (.b), .d (.i .i64), .d (.b), .d (.b), .d (.b)], []⟩
def X53o1e2 : TSt := ⟨[.d (.l), .d (.l), .d (.b), .d (.i .i64), .d (.b), .d (.b), .any], []⟩
def L53o1 (m : Nat) (vs : List Vr) (K : Cont (List DV × List (List D))) : Rs := l53o1 (vL vs 0) (vL vs 1) (vB vs 2) (vB vs 4) (fun n22 b23 b24 => K .ret (fillS X53o1e1 [.l (vL vs 0), .l (vL vs 1), .b (false), .i (n22), .b (vB vs 4), .b (b23), .b (b24)])) (fun n25 b26 v27 => K (.exit 0) (fillS X53o1e2 [.l (vL vs 0), .l (vL vs 1), .b (vB vs 2), .i (n25), .b (vB vs 4), .b (b26), .v (v27)])) m (vI vs 3) (vV vs 5) (vV vs 6)
def ST53 : List (Nat × (St → Cont (List DV × List (List D)) → Rs)) := [(1, sumT T53o1 (L53o1 KK))]
noncomputable def b53o1 : Code := match nodeAt c53 1 with | some (.loop a) => a | _ => .skip
theorem q53o1 : ∀ m vs K, L53o1 (m + 1) vs K = denK C53 (lkS ST53) b53o1 2 (fillS T53o1 vs) (loopK T53o1 (L53o1 m) K) := fun m vs K => by kernel_rfl
theorem o53o1 : SumOk C53 KK (sumT T53o1 (L53o1 KK)) (.loop b53o1) := loop_ok T53o1 L53o1 (sums_of (t := ST53) ⟨fun _ _ h => absurd h (by decide), trivial⟩) (fun _ _ => rfl) q53o1
theorem r53 : ∀ vs, tw53 vs = bodyK C53 (lkS ST53) Try.f53 (sig 53) c53 (fillAs A53 0 vs) := fun vs => by kernel_rfl
theorem ok53 : ∀ xs q, opt (th53 xs) = some q → evalBody Try.prog sig (Gd G dep (dep 53)) KK 53 xs = some q := fun xs q h => body_ok Try.func53 (c := c53) rfl A53 tw53 (sums_of (C := C53) (t := ST53) ⟨sum_in (c' := .loop b53o1) (by kernel_rfl) (o53o1), trivial⟩) r53 (by rw [← tpw53]; exact opt_gOf h)
noncomputable def C14 : Ctx := ⟨Try.prog, sig, Gd G dep (dep 14), (sig 14).keep, (sig 14).ord⟩
noncomputable def c14 : Code := Try.f14.body.getD .skip
def ST14 : List (Nat × (St → Cont (List DV × List (List D)) → Rs)) := []
theorem r14 : ∀ vs, tw14 vs = bodyK C14 (lkS ST14) Try.f14 (sig 14) c14 (fillAs A14 0 vs) := fun vs => by kernel_rfl
theorem ok14 : ∀ xs q, opt (th14 xs) = some q → evalBody Try.prog sig (Gd G dep (dep 14)) KK 14 xs = some q := fun xs q h => body_ok Try.func14 (c := c14) rfl A14 tw14 (sums_of (C := C14) (t := ST14) trivial) r14 (by rw [← tpw14]; exact opt_gOf h)
noncomputable def C67 : Ctx := ⟨Try.prog, sig, Gd G dep (dep 67), (sig 67).keep, (sig 67).ord⟩
noncomputable def c67 : Code := Try.f67.body.getD .skip
def ST67 : List (Nat × (St → Cont (List DV × List (List D)) → Rs)) := []
theorem r67 : ∀ vs, tw67 vs = bodyK C67 (lkS ST67) Try.f67 (sig 67) c67 (fillAs A67 0 vs) := fun vs => by kernel_rfl
theorem ok67 : ∀ xs q, opt (th67 xs) = some q → evalBody Try.prog sig (Gd G dep (dep 67)) KK 67 xs = some q := fun xs q h => body_ok Try.func67 (c := c67) rfl A67 tw67 (sums_of (C := C67) (t := ST67) trivial) r67 (by rw [← tpw67]; exact opt_gOf h)
noncomputable def C30 : Ctx := ⟨Try.prog, sig, Gd G dep (dep 30), (sig 30).keep, (sig 30).ord⟩
noncomputable def c30 : Code := Try.f30.body.getD .skip
def T30o1 : TSt := ⟨[.d (.l), .d (.l), .d (.b), .d (.i .i64), .d (.b), .any, .any], []⟩
def X30o1e1 : TSt := ⟨[.d (.l), .d (.l), .d (.b), .d (.i .i64), .d (.b), .d (.b), .d (.b)], []⟩
def X30o1e2 : TSt := ⟨[.d (.l), .d (.l), .d (.b), .d (.i .i64), .d (.b), .d (.b), .any], []⟩
def L30o1 (m : Nat) (vs : List Vr) (K : Cont (List DV × List (List D))) : Rs := la30o1 tu67 (vL vs 0) (vL vs 1) (vB vs 2) (vB vs 4) (fun n22 b23 b24 => K .ret (fillS X30o1e1 [.l (vL vs 0), .l (vL vs 1), .b (false), .i (n22), .b (vB vs 4), .b (b23), .b (b24)])) (fun n25 b26 v27 => K (.exit 0) (fillS X30o1e2 [.l (vL vs 0), .l (vL vs 1), .b (vB vs 2), .i (n25), .b (vB vs 4), .b (b26), .v (v27)])) m (vI vs 3) (vV vs 5) (vV vs 6)
def ST30 : List (Nat × (St → Cont (List DV × List (List D)) → Rs)) := [(1, sumT T30o1 (L30o1 KK))]
noncomputable def b30o1 : Code := match nodeAt c30 1 with | some (.loop a) => a | _ => .skip
theorem q30o1 : ∀ m vs K, L30o1 (m + 1) vs K = denK C30 (lkS ST30) b30o1 2 (fillS T30o1 vs) (loopK T30o1 (L30o1 m) K) := fun m vs K => by kernel_rfl
theorem o30o1 : SumOk C30 KK (sumT T30o1 (L30o1 KK)) (.loop b30o1) := loop_ok T30o1 L30o1 (sums_of (t := ST30) ⟨fun _ _ h => absurd h (by decide), trivial⟩) (fun _ _ => rfl) q30o1
theorem r30 : ∀ vs, tw30 vs = bodyK C30 (lkS ST30) Try.f30 (sig 30) c30 (fillAs A30 0 vs) := fun vs => by kernel_rfl
theorem ok30 : ∀ xs q, opt (th30 xs) = some q → evalBody Try.prog sig (Gd G dep (dep 30)) KK 30 xs = some q := fun xs q h => body_ok Try.func30 (c := c30) rfl A30 tw30 (sums_of (C := C30) (t := ST30) ⟨sum_in (c' := .loop b30o1) (by kernel_rfl) (o30o1), trivial⟩) r30 (by rw [← tpw30]; exact opt_gOf h)
noncomputable def C68 : Ctx := ⟨Try.prog, sig, Gd G dep (dep 68), (sig 68).keep, (sig 68).ord⟩
noncomputable def c68 : Code := Try.f68.body.getD .skip
def T68o1 : TSt := ⟨[.d (.i .i64), .d (.s), .d (.s), .d (.b), .any], []⟩
def X68o1e1 : TSt := ⟨[.d (.i .i64), .d (.s), .d (.s), .d (.b), .d (.b)], []⟩
def L68o1 (m : Nat) (vs : List Vr) (K : Cont (List DV × List (List D))) : Rs := l68o1 (vS vs 1) (vB vs 3) (fun n16 s17 b18 => K (.exit 0) (fillS X68o1e1 [.i (n16), .s (vS vs 1), .s (s17), .b (vB vs 3), .b (b18)])) m (vI vs 0) (vS vs 2) (vV vs 4)
def ST68 : List (Nat × (St → Cont (List DV × List (List D)) → Rs)) := [(1, sumT T68o1 (L68o1 KK))]
noncomputable def b68o1 : Code := match nodeAt c68 1 with | some (.loop a) => a | _ => .skip
theorem q68o1 : ∀ m vs K, L68o1 (m + 1) vs K = denK C68 (lkS ST68) b68o1 2 (fillS T68o1 vs) (loopK T68o1 (L68o1 m) K) := fun m vs K => by kernel_rfl
theorem o68o1 : SumOk C68 KK (sumT T68o1 (L68o1 KK)) (.loop b68o1) := loop_ok T68o1 L68o1 (sums_of (t := ST68) ⟨fun _ _ h => absurd h (by decide), trivial⟩) (fun _ _ => rfl) q68o1
theorem r68 : ∀ vs, tw68 vs = bodyK C68 (lkS ST68) Try.f68 (sig 68) c68 (fillAs A68 0 vs) := fun vs => by kernel_rfl
theorem ok68 : ∀ xs q, opt (th68 xs) = some q → evalBody Try.prog sig (Gd G dep (dep 68)) KK 68 xs = some q := fun xs q h => body_ok Try.func68 (c := c68) rfl A68 tw68 (sums_of (C := C68) (t := ST68) ⟨sum_in (c' := .loop b68o1) (by kernel_rfl) (o68o1), trivial⟩) r68 (by rw [← tpw68]; exact opt_gOf h)
noncomputable def C55 : Ctx := ⟨Try.prog, sig, Gd G dep (dep 55), (sig 55).keep, (sig 55).ord⟩
noncomputable def c55 : Code := Try.f55.body.getD .skip
def T55o0 : TSt := ⟨[.own 1, .d (.i .i64), .d (.i .i64), .d (.i .i64), .any], [(1, .row 999999999 2)]⟩
def X55o0e1 : TSt := ⟨[.own 1, .d (.i .i64), .d (.i .i64), .d (.i .i64), .d (.b)], [(1, .row 999999999 2)]⟩
def L55o0 (m : Nat) (vs : List Vr) (K : Cont (List DV × List (List D))) : Rs := la55o0 tu68 (vI vs 1) (fun n17 n18 b19 l20 => K (.exit 0) (fillS X55o0e1 [.i (n17), .i (vI vs 1), .i (n18), .b (b19), .l (l20)])) m (vI vs 0) (vI vs 2) (vV vs 3) (vL vs 4)
def ST55 : List (Nat × (St → Cont (List DV × List (List D)) → Rs)) := [(0, sumT T55o0 (L55o0 KK))]
noncomputable def b55o0 : Code := match nodeAt c55 0 with | some (.loop a) => a | _ => .skip
theorem q55o0 : ∀ m vs K, L55o0 (m + 1) vs K = denK C55 (lkS ST55) b55o0 1 (fillS T55o0 vs) (loopK T55o0 (L55o0 m) K) := fun m vs K => by kernel_rfl
theorem o55o0 : SumOk C55 KK (sumT T55o0 (L55o0 KK)) (.loop b55o0) := loop_ok T55o0 L55o0 (sums_of (t := ST55) ⟨fun _ _ h => absurd h (by decide), trivial⟩) (fun _ _ => rfl) q55o0
theorem r55 : ∀ vs, tw55 vs = bodyK C55 (lkS ST55) Try.f55 (sig 55) c55 (fillAs A55 0 vs) := fun vs => by kernel_rfl
theorem ok55 : ∀ xs q, opt (th55 xs) = some q → evalBody Try.prog sig (Gd G dep (dep 55)) KK 55 xs = some q := fun xs q h => body_ok Try.func55 (c := c55) rfl A55 tw55 (sums_of (C := C55) (t := ST55) ⟨sum_in (c' := .loop b55o0) (by kernel_rfl) (o55o0), trivial⟩) r55 (by rw [← tpw55]; exact opt_gOf h)
noncomputable def C56 : Ctx := ⟨Try.prog, sig, Gd G dep (dep 56), (sig 56).keep, (sig 56).ord⟩
noncomputable def c56 : Code := Try.f56.body.getD .skip
def T56o0 : TSt := ⟨[.own 1, .d (.i .i64), .d (.i .i64), .d (.i .i64), .any], [(1, .row 999999999 1)]⟩
def X56o0e1 : TSt := ⟨[.own 1, .d (.i .i64), .d (.i .i64), .d (.i .i64), .d (.b)], [(1, .row 999999999 1)]⟩
def L56o0 (m : Nat) (vs : List Vr) (K : Cont (List DV × List (List D))) : Rs := l56o0 (vI vs 1) (fun n17 n18 b19 l20 => K (.exit 0) (fillS X56o0e1 [.i (n17), .i (vI vs 1), .i (n18), .b (b19), .l (l20)])) m (vI vs 0) (vI vs 2) (vV vs 3) (vL vs 4)
def ST56 : List (Nat × (St → Cont (List DV × List (List D)) → Rs)) := [(0, sumT T56o0 (L56o0 KK))]
noncomputable def b56o0 : Code := match nodeAt c56 0 with | some (.loop a) => a | _ => .skip
theorem q56o0 : ∀ m vs K, L56o0 (m + 1) vs K = denK C56 (lkS ST56) b56o0 1 (fillS T56o0 vs) (loopK T56o0 (L56o0 m) K) := fun m vs K => by kernel_rfl
theorem o56o0 : SumOk C56 KK (sumT T56o0 (L56o0 KK)) (.loop b56o0) := loop_ok T56o0 L56o0 (sums_of (t := ST56) ⟨fun _ _ h => absurd h (by decide), trivial⟩) (fun _ _ => rfl) q56o0
theorem r56 : ∀ vs, tw56 vs = bodyK C56 (lkS ST56) Try.f56 (sig 56) c56 (fillAs A56 0 vs) := fun vs => by kernel_rfl
theorem ok56 : ∀ xs q, opt (th56 xs) = some q → evalBody Try.prog sig (Gd G dep (dep 56)) KK 56 xs = some q := fun xs q h => body_ok Try.func56 (c := c56) rfl A56 tw56 (sums_of (C := C56) (t := ST56) ⟨sum_in (c' := .loop b56o0) (by kernel_rfl) (o56o0), trivial⟩) r56 (by rw [← tpw56]; exact opt_gOf h)
noncomputable def C18 : Ctx := ⟨Try.prog, sig, Gd G dep (dep 18), (sig 18).keep, (sig 18).ord⟩
noncomputable def c18 : Code := Try.f18.body.getD .skip
def ST18 : List (Nat × (St → Cont (List DV × List (List D)) → Rs)) := []
theorem r18 : ∀ vs, tw18 vs = bodyK C18 (lkS ST18) Try.f18 (sig 18) c18 (fillAs A18 0 vs) := fun vs => by kernel_rfl
theorem ok18 : ∀ xs q, opt (th18 xs) = some q → evalBody Try.prog sig (Gd G dep (dep 18)) KK 18 xs = some q := fun xs q h => body_ok Try.func18 (c := c18) rfl A18 tw18 (sums_of (C := C18) (t := ST18) trivial) r18 (by rw [← tpw18]; exact opt_gOf h)
noncomputable def C31 : Ctx := ⟨Try.prog, sig, Gd G dep (dep 31), (sig 31).keep, (sig 31).ord⟩
noncomputable def c31 : Code := Try.f31.body.getD .skip
def T31o0 : TSt := ⟨[.own 1, .d (.i .i64), .d (.i .i64), .d (.i .i64), .any], [(1, .row 999999999 10)]⟩
def X31o0e1 : TSt := ⟨[.own 1, .d (.i .i64), .d (.i .i64), .d (.i .i64), .d (.b)], [(1, .row 999999999 10)]⟩
def L31o0 (m : Nat) (vs : List Vr) (K : Cont (List DV × List (List D))) : Rs := la31o0 tu55 tu68 (vI vs 1) (fun n17 n18 b19 l20 => K (.exit 0) (fillS X31o0e1 [.i (n17), .i (vI vs 1), .i (n18), .b (b19), .l (l20)])) m (vI vs 0) (vI vs 2) (vV vs 3) (vL vs 4)
def ST31 : List (Nat × (St → Cont (List DV × List (List D)) → Rs)) := [(0, sumT T31o0 (L31o0 KK))]
noncomputable def b31o0 : Code := match nodeAt c31 0 with | some (.loop a) => a | _ => .skip
theorem q31o0 : ∀ m vs K, L31o0 (m + 1) vs K = denK C31 (lkS ST31) b31o0 1 (fillS T31o0 vs) (loopK T31o0 (L31o0 m) K) := fun m vs K => by kernel_rfl
theorem o31o0 : SumOk C31 KK (sumT T31o0 (L31o0 KK)) (.loop b31o0) := loop_ok T31o0 L31o0 (sums_of (t := ST31) ⟨fun _ _ h => absurd h (by decide), trivial⟩) (fun _ _ => rfl) q31o0
theorem r31 : ∀ vs, tw31 vs = bodyK C31 (lkS ST31) Try.f31 (sig 31) c31 (fillAs A31 0 vs) := fun vs => by kernel_rfl
theorem ok31 : ∀ xs q, opt (th31 xs) = some q → evalBody Try.prog sig (Gd G dep (dep 31)) KK 31 xs = some q := fun xs q h => body_ok Try.func31 (c := c31) rfl A31 tw31 (sums_of (C := C31) (t := ST31) ⟨sum_in (c' := .loop b31o0) (by kernel_rfl) (o31o0), trivial⟩) r31 (by rw [← tpw31]; exact opt_gOf h)
noncomputable def C57 : Ctx := ⟨Try.prog, sig, Gd G dep (dep 57), (sig 57).keep, (sig 57).ord⟩
noncomputable def c57 : Code := Try.f57.body.getD .skip
def T57o0 : TSt := ⟨[.d (.l), .d (.i .i64), .d (.i .i64), .d (.i .i64), .any, .any, .any], []⟩
def X57o0e1 : TSt := ⟨[.d (.l), .d (.i .i64), .d (.i .i64), .d (.i .i64), .d (.b), .d (.b), .any], []⟩
def X57o0e2 : TSt := ⟨[.d (.l), .d (.i .i64), .d (.i .i64), .d (.i .i64), .d (.b), .d (.b), .d (.b)], []⟩
def X57o0e3 : TSt := ⟨[.d (.l), .d (.i .i64), .d (.i .i64), .d (.i .i64), .d (.b), .any, .any], []⟩
def L57o0 (m : Nat) (vs : List Vr) (K : Cont (List DV × List (List D))) : Rs := la57o0 tu68 (vL vs 0) (vI vs 2) (fun n21 n22 b23 b24 v25 => K .ret (fillS X57o0e1 [.l (vL vs 0), .i (n21), .i ((-1 : Int)), .i (n22), .b (b23), .b (b24), .v (v25)])) (fun n26 n27 b28 b29 b30 => K .ret (fillS X57o0e2 [.l (vL vs 0), .i (n26), .i ((-1 : Int)), .i (n27), .b (b28), .b (b29), .b (b30)])) (fun n31 n32 b33 v34 v35 => K (.exit 0) (fillS X57o0e3 [.l (vL vs 0), .i (n31), .i (vI vs 2), .i (n32), .b (b33), .v (v34), .v (v35)])) m (vI vs 1) (vI vs 3) (vV vs 4) (vV vs 5) (vV vs 6)
def ST57 : List (Nat × (St → Cont (List DV × List (List D)) → Rs)) := [(0, sumT T57o0 (L57o0 KK))]
noncomputable def b57o0 : Code := match nodeAt c57 0 with | some (.loop a) => a | _ => .skip
theorem q57o0 : ∀ m vs K, L57o0 (m + 1) vs K = denK C57 (lkS ST57) b57o0 1 (fillS T57o0 vs) (loopK T57o0 (L57o0 m) K) := fun m vs K => by kernel_rfl
theorem o57o0 : SumOk C57 KK (sumT T57o0 (L57o0 KK)) (.loop b57o0) := loop_ok T57o0 L57o0 (sums_of (t := ST57) ⟨fun _ _ h => absurd h (by decide), trivial⟩) (fun _ _ => rfl) q57o0
theorem r57 : ∀ vs, tw57 vs = bodyK C57 (lkS ST57) Try.f57 (sig 57) c57 (fillAs A57 0 vs) := fun vs => by kernel_rfl
theorem ok57 : ∀ xs q, opt (th57 xs) = some q → evalBody Try.prog sig (Gd G dep (dep 57)) KK 57 xs = some q := fun xs q h => body_ok Try.func57 (c := c57) rfl A57 tw57 (sums_of (C := C57) (t := ST57) ⟨sum_in (c' := .loop b57o0) (by kernel_rfl) (o57o0), trivial⟩) r57 (by rw [← tpw57]; exact opt_gOf h)
noncomputable def C60 : Ctx := ⟨Try.prog, sig, Gd G dep (dep 60), (sig 60).keep, (sig 60).ord⟩
noncomputable def c60 : Code := Try.f60.body.getD .skip
def T60o0 : TSt := ⟨[.d (.l), .d (.i .i64), .d (.i .i64), .d (.i .i64), .any, .any], []⟩
def X60o0e1 : TSt := ⟨[.d (.l), .d (.i .i64), .d (.i .i64), .d (.i .i64), .d (.b), .d (.b)], []⟩
def X60o0e2 : TSt := ⟨[.d (.l), .d (.i .i64), .d (.i .i64), .d (.i .i64), .d (.b), .any], []⟩
def L60o0 (m : Nat) (vs : List Vr) (K : Cont (List DV × List (List D))) : Rs := l60o0 (vL vs 0) (vI vs 2) (fun n19 n20 b21 b22 => K .ret (fillS X60o0e1 [.l (vL vs 0), .i (n19), .i ((-1 : Int)), .i (n20), .b (b21), .b (b22)])) (fun n23 n24 b25 v26 => K (.exit 0) (fillS X60o0e2 [.l (vL vs 0), .i (n23), .i (vI vs 2), .i (n24), .b (b25), .v (v26)])) m (vI vs 1) (vI vs 3) (vV vs 4) (vV vs 5)
def ST60 : List (Nat × (St → Cont (List DV × List (List D)) → Rs)) := [(0, sumT T60o0 (L60o0 KK))]
noncomputable def b60o0 : Code := match nodeAt c60 0 with | some (.loop a) => a | _ => .skip
theorem q60o0 : ∀ m vs K, L60o0 (m + 1) vs K = denK C60 (lkS ST60) b60o0 1 (fillS T60o0 vs) (loopK T60o0 (L60o0 m) K) := fun m vs K => by kernel_rfl
theorem o60o0 : SumOk C60 KK (sumT T60o0 (L60o0 KK)) (.loop b60o0) := loop_ok T60o0 L60o0 (sums_of (t := ST60) ⟨fun _ _ h => absurd h (by decide), trivial⟩) (fun _ _ => rfl) q60o0
theorem r60 : ∀ vs, tw60 vs = bodyK C60 (lkS ST60) Try.f60 (sig 60) c60 (fillAs A60 0 vs) := fun vs => by kernel_rfl
theorem ok60 : ∀ xs q, opt (th60 xs) = some q → evalBody Try.prog sig (Gd G dep (dep 60)) KK 60 xs = some q := fun xs q h => body_ok Try.func60 (c := c60) rfl A60 tw60 (sums_of (C := C60) (t := ST60) ⟨sum_in (c' := .loop b60o0) (by kernel_rfl) (o60o0), trivial⟩) r60 (by rw [← tpw60]; exact opt_gOf h)
noncomputable def C25 : Ctx := ⟨Try.prog, sig, Gd G dep (dep 25), (sig 25).keep, (sig 25).ord⟩
noncomputable def c25 : Code := Try.f25.body.getD .skip
def ST25 : List (Nat × (St → Cont (List DV × List (List D)) → Rs)) := []
theorem r25 : ∀ vs, tw25 vs = bodyK C25 (lkS ST25) Try.f25 (sig 25) c25 (fillAs A25 0 vs) := fun vs => by kernel_rfl
theorem ok25 : ∀ xs q, opt (th25 xs) = some q → evalBody Try.prog sig (Gd G dep (dep 25)) KK 25 xs = some q := fun xs q h => body_ok Try.func25 (c := c25) rfl A25 tw25 (sums_of (C := C25) (t := ST25) trivial) r25 (by rw [← tpw25]; exact opt_gOf h)
noncomputable def C32 : Ctx := ⟨Try.prog, sig, Gd G dep (dep 32), (sig 32).keep, (sig 32).ord⟩
noncomputable def c32 : Code := Try.f32.body.getD .skip
def T32o0 : TSt := ⟨[.d (.l), .d (.i .i64), .d (.i .i64), .d (.i .i64), .any, .any, .any, .any, .any, .any, .any, .any, .any, .any, .any], []⟩
def X32o0e1 : TSt := ⟨[.d (.l), .d (.i .i64), .d (.i .i64), .d (.i .i64), .d (.b), .d (.b), .any, .any, .any, .any, .any, .any, .any, .any, .any], []⟩
def X32o0e2 : TSt := ⟨[.d (.l), .d (.i .i64), .d (.i .i64), .d (.i .i64), .d (.b), .d (.b), .d (.b), .any, .any, .any, .any, .any, .any, .any, .any], []⟩
def X32o0e3 : TSt := ⟨[.d (.l), .d (.i .i64), .d (.i .i64), .d (.i .i64), .d (.b), .d (.b), .d (.b), .d (.b), .any, .any, .any, .any, .any, .any, .any], []⟩
def X32o0e4 : TSt := ⟨[.d (.l), .d (.i .i64), .d (.i .i64), .d (.i .i64), .d (.b), .d (.b), .d (.b), .d (.b), .d (.b), .any, .any, .any, .any, .any, .any], []⟩
def X32o0e5 : TSt := ⟨[.d (.l), .d (.i .i64), .d (.i .i64), .d (.i .i64), .d (.b), .d (.b), .d (.b), .d (.b), .d (.b), .d (.b), .any, .any, .any, .any, .any], []⟩
def X32o0e6 : TSt := ⟨[.d (.l), .d (.i .i64), .d (.i .i64), .d (.i .i64), .d (.b), .d (.b), .d (.b), .d (.b), .d (.b), .d (.b), .d (.b), .any, .any, .any, .any], []⟩
def X32o0e7 : TSt := ⟨[.d (.l), .d (.i .i64), .d (.i .i64), .d (.i .i64), .d (.b), .d (.b), .d (.b), .d (.b), .d (.b), .d (.b), .d (.b), .d (.b), .any, .any, .any], []⟩
def X32o0e8 : TSt := ⟨[.d (.l), .d (.i .i64), .d (.i .i64), .d (.i .i64), .d (.b), .d (.b), .d (.b), .d (.b), .d (.b), .d (.b), .d (.b), .d (.b), .d (.b), .any, .any], []⟩
def X32o0e9 : TSt := ⟨[.d (.l), .d (.i .i64), .d (.i .i64), .d (.i .i64), .d (.b), .d (.b), .d (.b), .d (.b), .d (.b), .d (.b), .d (.b), .d (.b), .d (.b), .d (.b), .any], []⟩
def X32o0e10 : TSt := ⟨[.d (.l), .d (.i .i64), .d (.i .i64), .d (.i .i64), .d (.b), .d (.b), .d (.b), .d (.b), .d (.b), .d (.b), .d (.b), .d (.b), .d (.b), .d (.b), .d (.b)], []⟩
def X32o0e11 : TSt := ⟨[.d (.l), .d (.i .i64), .d (.i .i64), .d (.i .i64), .d (.b), .any, .any, .any, .any, .any, .any, .any, .any, .any, .any], []⟩
def L32o0 (m : Nat) (vs : List Vr) (K : Cont (List DV × List (List D))) : Rs := la32o0 tu57 tu68 (vL vs 0) (vI vs 2) (fun n37 n38 b39 b40 v41 v42 v43 v44 v45 v46 v47 v48 v49 => K .ret (fillS X32o0e1 [.l (vL vs 0), .i (n37), .i ((-1 : Int)), .i (n38), .b (b39), .b (b40), .v (v41), .v (v42), .v (v43), .v (v44), .v (v45), .v (v46), .v (v47), .v (v48), .v (v49)])) (fun n50 n51 b52 b53 b54 v55 v56 v57 v58 v59 v60 v61 v62 => K .ret (fillS X32o0e2 [.l (vL vs 0), .i (n50), .i ((-1 : Int)), .i (n51), .b (b52), .b (b53), .b (b54), .v (v55), .v (v56), .v (v57), .v (v58), .v (v59), .v (v60), .v (v61), .v (v62)])) (fun n63 n64 b65 b66 b67 b68 v69 v70 v71 v72 v73 v74 v75 => K .ret (fillS X32o0e3 [.l (vL vs 0), .i (n63), .i ((-1 : Int)), .i (n64), .b (b65), .b (b66), .b (b67), .b (b68), .v (v69), .v (v70), .v (v71), .v (v72), .v (v73), .v (v74), .v (v75)])) (fun n76 n77 b78 b79 b80 b81 b82 v83 v84 v85 v86 v87 v88 => K .ret (fillS X32o0e4 [.l (vL vs 0), .i (n76), .i ((-1 : Int)), .i (n77), .b (b78), .b (b79), .b (b80), .b (b81), .b (b82), .v (v83), .v (v84), .v (v85), .v (v86), .v (v87), .v (v88)])) (fun n89 n90 b91 b92 b93 b94 b95 b96 v97 v98 v99 v100 v101 => K .ret (fillS X32o0e5 [.l (vL vs 0), .i (n89), .i ((-1 : Int)), .i (n90), .b (b91), .b (b92), .b (b93), .b (b94), .b (b95), .b (b96), .v (v97), .v (v98), .v (v99), .v (v100), .v (v101)])) (fun n102 n103 b104 b105 b106 b107 b108 b109 b110 v111 v112 v113 v114 => K .ret (fillS X32o0e6 [.l (vL vs 0), .i (n102), .i ((-1 : Int)), .i (n103), .b (b104), .b (b105), .b (b106), .b (b107), .b (b108), .b (b109), .b (b110), .v (v111), .v (v112), .v (v113), .v (v114)])) (fun n115 n116 b117 b118 b119 b120 b121 b122 b123 b124 v125 v126 v127 => K .ret (fillS X32o0e7 [.l (vL vs 0), .i (n115), .i ((-1 : Int)), .i (n116), .b (b117), .b (b118), .b (b119), .b (b120), .b (b121), .b (b122), .b (b123), .b (b124), .v (v125), .v (v126), .v (v127)])) (fun n128 n129 b130 b131 b132 b133 b134 b135 b136 b137 b138 v139 v140 => K .ret (fillS X32o0e8 [.l (vL vs 0), .i (n128), .i ((-1 : Int)), .i (n129), .b (b130), .b (b131), .b (b132), .b (b133), .b (b134), .b (b135), .b (b136), .b (b137), .b (b138), .v (v139), .v (v140)])) (fun n141 n142 b143 b144 b145 b146 b147 b148 b149 b150 b151 b152 v153 => K .ret (fillS X32o0e9 [.l (vL vs 0), .i (n141), .i ((-1 : Int)), .i (n142), .b (b143), .b (b144), .b (b145), .b (b146), .b (b147), .b (b148), .b (b149), .b (b150), .b (b151), .b (b152), .v (v153)])) (fun n154 n155 b156 b157 b158 b159 b160 b161 b162 b163 b164 b165 b166 => K .ret (fillS X32o0e10 [.l (vL vs 0), .i (n154), .i ((-1 : Int)), .i (n155), .b (b156), .b (b157), .b (b158), .b (b159), .b (b160), .b (b161), .b (b162), .b (b163), .b (b164), .b (b165), .b (b166)])) (fun n167 n168 b169 v170 v171 v172 v173 v174 v175 v176 v177 v178 v179 => K (.exit 0) (fillS X32o0e11 [.l (vL vs 0), .i (n167), .i (vI vs 2), .i (n168), .b (b169), .v (v170), .v (v171), .v (v172), .v (v173), .v (v174), .v (v175), .v (v176), .v (v177), .v (v178), .v (v179)])) m (vI vs 1) (vI vs 3) (vV vs 4) (vV vs 5) (vV vs 6) (vV vs 7) (vV vs 8) (vV vs 9) (vV vs 10) (vV vs 11) (vV vs 12) (vV vs 13) (vV vs 14)
def ST32 : List (Nat × (St → Cont (List DV × List (List D)) → Rs)) := [(0, sumT T32o0 (L32o0 KK))]
noncomputable def b32o0 : Code := match nodeAt c32 0 with | some (.loop a) => a | _ => .skip
theorem q32o0 : ∀ m vs K, L32o0 (m + 1) vs K = denK C32 (lkS ST32) b32o0 1 (fillS T32o0 vs) (loopK T32o0 (L32o0 m) K) := fun m vs K => by kernel_rfl
theorem o32o0 : SumOk C32 KK (sumT T32o0 (L32o0 KK)) (.loop b32o0) := loop_ok T32o0 L32o0 (sums_of (t := ST32) ⟨fun _ _ h => absurd h (by decide), trivial⟩) (fun _ _ => rfl) q32o0
theorem r32 : ∀ vs, tw32 vs = bodyK C32 (lkS ST32) Try.f32 (sig 32) c32 (fillAs A32 0 vs) := fun vs => by kernel_rfl
theorem ok32 : ∀ xs q, opt (th32 xs) = some q → evalBody Try.prog sig (Gd G dep (dep 32)) KK 32 xs = some q := fun xs q h => body_ok Try.func32 (c := c32) rfl A32 tw32 (sums_of (C := C32) (t := ST32) ⟨sum_in (c' := .loop b32o0) (by kernel_rfl) (o32o0), trivial⟩) r32 (by rw [← tpw32]; exact opt_gOf h)
noncomputable def C9 : Ctx := ⟨Try.prog, sig, Gd G dep (dep 9), (sig 9).keep, (sig 9).ord⟩
noncomputable def c9 : Code := Try.f9.body.getD .skip
def ST9 : List (Nat × (St → Cont (List DV × List (List D)) → Rs)) := []
theorem r9 : ∀ vs, tw9 vs = bodyK C9 (lkS ST9) Try.f9 (sig 9) c9 (fillAs A9 0 vs) := fun vs => by kernel_rfl
theorem ok9 : ∀ xs q, opt (th9 xs) = some q → evalBody Try.prog sig (Gd G dep (dep 9)) KK 9 xs = some q := fun xs q h => body_ok Try.func9 (c := c9) rfl A9 tw9 (sums_of (C := C9) (t := ST9) trivial) r9 (by rw [← tpw9]; exact opt_gOf h)
theorem fn_ok : ∀ f ∈ [73, 37, 38, 10, 75, 44, 45, 12, 39, 41, 74, 40, 42, 43, 11, 61, 62, 83, 69, 80, 65, 71, 35, 46, 48, 47, 49, 88, 76, 77, 50, 51, 13, 79, 63, 84, 85, 64, 86, 81, 82, 66, 87, 72, 36, 78, 52, 53, 14, 67, 30, 68, 55, 56, 18, 31, 57, 60, 25, 32, 9], FnOk Try.prog sig f := fun f h => fnOk_of (List.all_eq_true.1 (show [73, 37, 38, 10, 75, 44, 45, 12, 39, 41, 74, 40, 42, 43, 11, 61, 62, 83, 69, 80, 65, 71, 35, 46, 48, 47, 49, 88, 76, 77, 50, 51, 13, 79, 63, 84, 85, 64, 86, 81, 82, 66, 87, 72, 36, 78, 52, 53, 14, 67, 30, 68, 55, 56, 18, 31, 57, 60, 25, 32, 9].all (fnOkB Try.prog sig) = true by kernel_rfl) f h)
theorem all_ok : AllG (fun f xs q => FnOk Try.prog sig f ∧ evalBody Try.prog sig (Gd G dep (dep f)) KK f xs = some q) gT :=
  ⟨fun xs q h => ⟨fn_ok 73 (by simp), ok73 xs q h⟩, fun xs q h => ⟨fn_ok 37 (by simp), ok37 xs q h⟩, fun xs q h => ⟨fn_ok 38 (by simp), ok38 xs q h⟩, fun xs q h => ⟨fn_ok 10 (by simp), ok10 xs q h⟩, fun xs q h => ⟨fn_ok 75 (by simp), ok75 xs q h⟩, fun xs q h => ⟨fn_ok 44 (by simp), ok44 xs q h⟩, fun xs q h => ⟨fn_ok 45 (by simp), ok45 xs q h⟩, fun xs q h => ⟨fn_ok 12 (by simp), ok12 xs q h⟩, fun xs q h => ⟨fn_ok 39 (by simp), ok39 xs q h⟩, fun xs q h => ⟨fn_ok 41 (by simp), ok41 xs q h⟩, fun xs q h => ⟨fn_ok 74 (by simp), ok74 xs q h⟩, fun xs q h => ⟨fn_ok 40 (by simp), ok40 xs q h⟩, fun xs q h => ⟨fn_ok 42 (by simp), ok42 xs q h⟩, fun xs q h => ⟨fn_ok 43 (by simp), ok43 xs q h⟩, fun xs q h => ⟨fn_ok 11 (by simp), ok11 xs q h⟩, fun xs q h => ⟨fn_ok 61 (by simp), ok61 xs q h⟩, fun xs q h => ⟨fn_ok 62 (by simp), ok62 xs q h⟩, fun xs q h => ⟨fn_ok 83 (by simp), ok83 xs q h⟩, fun xs q h => ⟨fn_ok 69 (by simp), ok69 xs q h⟩, fun xs q h => ⟨fn_ok 80 (by simp), ok80 xs q h⟩, fun xs q h => ⟨fn_ok 65 (by simp), ok65 xs q h⟩, fun xs q h => ⟨fn_ok 71 (by simp), ok71 xs q h⟩, fun xs q h => ⟨fn_ok 35 (by simp), ok35 xs q h⟩, fun xs q h => ⟨fn_ok 46 (by simp), ok46 xs q h⟩, fun xs q h => ⟨fn_ok 48 (by simp), ok48 xs q h⟩, fun xs q h => ⟨fn_ok 47 (by simp), ok47 xs q h⟩, fun xs q h => ⟨fn_ok 49 (by simp), ok49 xs q h⟩, fun xs q h => ⟨fn_ok 88 (by simp), ok88 xs q h⟩, fun xs q h => ⟨fn_ok 76 (by simp), ok76 xs q h⟩, fun xs q h => ⟨fn_ok 77 (by simp), ok77 xs q h⟩, fun xs q h => ⟨fn_ok 50 (by simp), ok50 xs q h⟩, fun xs q h => ⟨fn_ok 51 (by simp), ok51 xs q h⟩, fun xs q h => ⟨fn_ok 13 (by simp), ok13 xs q h⟩, fun xs q h => ⟨fn_ok 79 (by simp), ok79 xs q h⟩, fun xs q h => ⟨fn_ok 63 (by simp), ok63 xs q h⟩, fun xs q h => ⟨fn_ok 84 (by simp), ok84 xs q h⟩, fun xs q h => ⟨fn_ok 85 (by simp), ok85 xs q h⟩, fun xs q h => ⟨fn_ok 64 (by simp), ok64 xs q h⟩, fun xs q h => ⟨fn_ok 86 (by simp), ok86 xs q h⟩, fun xs q h => ⟨fn_ok 81 (by simp), ok81 xs q h⟩, fun xs q h => ⟨fn_ok 82 (by simp), ok82 xs q h⟩, fun xs q h => ⟨fn_ok 66 (by simp), ok66 xs q h⟩, fun xs q h => ⟨fn_ok 87 (by simp), ok87 xs q h⟩, fun xs q h => ⟨fn_ok 72 (by simp), ok72 xs q h⟩, fun xs q h => ⟨fn_ok 36 (by simp), ok36 xs q h⟩, fun xs q h => ⟨fn_ok 78 (by simp), ok78 xs q h⟩, fun xs q h => ⟨fn_ok 52 (by simp), ok52 xs q h⟩, fun xs q h => ⟨fn_ok 53 (by simp), ok53 xs q h⟩, fun xs q h => ⟨fn_ok 14 (by simp), ok14 xs q h⟩, fun xs q h => ⟨fn_ok 67 (by simp), ok67 xs q h⟩, fun xs q h => ⟨fn_ok 30 (by simp), ok30 xs q h⟩, fun xs q h => ⟨fn_ok 68 (by simp), ok68 xs q h⟩, fun xs q h => ⟨fn_ok 55 (by simp), ok55 xs q h⟩, fun xs q h => ⟨fn_ok 56 (by simp), ok56 xs q h⟩, fun xs q h => ⟨fn_ok 18 (by simp), ok18 xs q h⟩, fun xs q h => ⟨fn_ok 31 (by simp), ok31 xs q h⟩, fun xs q h => ⟨fn_ok 57 (by simp), ok57 xs q h⟩, fun xs q h => ⟨fn_ok 60 (by simp), ok60 xs q h⟩, fun xs q h => ⟨fn_ok 25 (by simp), ok25 xs q h⟩, fun xs q h => ⟨fn_ok 32 (by simp), ok32 xs q h⟩, fun xs q h => ⟨fn_ok 9 (by simp), ok9 xs q h⟩, trivial⟩
theorem G_ok (f : Nat) : SpecOk Try.prog (sig f) (fun xs => opt (G f xs)) f := G_spec (by kernel_rfl) (allG_of all_ok) f
end
end Go.Den.L9
