/- The functions' table, and that each is what its twin says. Printed by tw.py. -/
import Derived.Test.YtklnogkdclhdhaaL9Tw
import Derived.Test.YtklnogkdclhdhaaProg
import Derived.KernelRfl
set_option linter.unusedVariables false
namespace Go.Den.L9
open Go Go.Proofs
noncomputable section
set_option maxRecDepth 100000
def tu49 : Int → Int → ByteArray → Int → Rs := Classical.choose (⟨t49, rfl⟩ : ∃ f, f = t49)
theorem tu49_eq : tu49 = t49 := Classical.choose_spec (⟨t49, rfl⟩ : ∃ f, f = t49)
def tu82 : Int → ByteArray → Int → Rs := Classical.choose (⟨t82, rfl⟩ : ∃ f, f = t82)
theorem tu82_eq : tu82 = t82 := Classical.choose_spec (⟨t82, rfl⟩ : ∃ f, f = t82)
def tu50 : List (List D) → Int → Rs := Classical.choose (⟨t50, rfl⟩ : ∃ f, f = t50)
theorem tu50_eq : tu50 = t50 := Classical.choose_spec (⟨t50, rfl⟩ : ∃ f, f = t50)
def tu12 : Int → Int → Int → Int → ByteArray → List (List D) → Int → Rs := Classical.choose (⟨t12, rfl⟩ : ∃ f, f = t12)
theorem tu12_eq : tu12 = t12 := Classical.choose_spec (⟨t12, rfl⟩ : ∃ f, f = t12)
def tu13 : Int → Int → Int → Int → ByteArray → Int → Rs := Classical.choose (⟨t13, rfl⟩ : ∃ f, f = t13)
theorem tu13_eq : tu13 = t13 := Classical.choose_spec (⟨t13, rfl⟩ : ∃ f, f = t13)
def tu39 : List (List D) → Int → Rs := Classical.choose (⟨t39, rfl⟩ : ∃ f, f = t39)
theorem tu39_eq : tu39 = t39 := Classical.choose_spec (⟨t39, rfl⟩ : ∃ f, f = t39)
def tu21 : Int → Int → Int → Int → ByteArray → List (List D) → List (List D) → Int → Rs := Classical.choose (⟨t21, rfl⟩ : ∃ f, f = t21)
theorem tu21_eq : tu21 = t21 := Classical.choose_spec (⟨t21, rfl⟩ : ∃ f, f = t21)
def tu54 : Int → Int → ByteArray → Rs := Classical.choose (⟨t54, rfl⟩ : ∃ f, f = t54)
theorem tu54_eq : tu54 = t54 := Classical.choose_spec (⟨t54, rfl⟩ : ∃ f, f = t54)
def tu87 : Int → ByteArray → Rs := Classical.choose (⟨t87, rfl⟩ : ∃ f, f = t87)
theorem tu87_eq : tu87 = t87 := Classical.choose_spec (⟨t87, rfl⟩ : ∃ f, f = t87)
def tu55 : List (List D) → Rs := Classical.choose (⟨t55, rfl⟩ : ∃ f, f = t55)
theorem tu55_eq : tu55 = t55 := Classical.choose_spec (⟨t55, rfl⟩ : ∃ f, f = t55)
def tu15 : Int → Int → Int → Int → ByteArray → List (List D) → Rs := Classical.choose (⟨t15, rfl⟩ : ∃ f, f = t15)
theorem tu15_eq : tu15 = t15 := Classical.choose_spec (⟨t15, rfl⟩ : ∃ f, f = t15)
def tu16 : Int → Int → Int → Int → ByteArray → Rs := Classical.choose (⟨t16, rfl⟩ : ∃ f, f = t16)
theorem tu16_eq : tu16 = t16 := Classical.choose_spec (⟨t16, rfl⟩ : ∃ f, f = t16)
def tu41 : List (List D) → Rs := Classical.choose (⟨t41, rfl⟩ : ∃ f, f = t41)
theorem tu41_eq : tu41 = t41 := Classical.choose_spec (⟨t41, rfl⟩ : ∃ f, f = t41)
def tu23 : Int → Int → Int → Int → ByteArray → List (List D) → List (List D) → Rs := Classical.choose (⟨t23, rfl⟩ : ∃ f, f = t23)
theorem tu23_eq : tu23 = t23 := Classical.choose_spec (⟨t23, rfl⟩ : ∃ f, f = t23)
def tu83 : Int → Int → Int → Rs := Classical.choose (⟨t83, rfl⟩ : ∃ f, f = t83)
theorem tu83_eq : tu83 = t83 := Classical.choose_spec (⟨t83, rfl⟩ : ∃ f, f = t83)
def tu84 : Int → Int → Rs := Classical.choose (⟨t84, rfl⟩ : ∃ f, f = t84)
theorem tu84_eq : tu84 = t84 := Classical.choose_spec (⟨t84, rfl⟩ : ∃ f, f = t84)
def tu51 : Int → Int → Int → Int → ByteArray → List (List D) → Rs := Classical.choose (⟨t51, rfl⟩ : ∃ f, f = t51)
theorem tu51_eq : tu51 = t51 := Classical.choose_spec (⟨t51, rfl⟩ : ∃ f, f = t51)
def tu53 : Int → Int → Int → Int → ByteArray → List (List D) → Rs := Classical.choose (⟨t53, rfl⟩ : ∃ f, f = t53)
theorem tu53_eq : tu53 = t53 := Classical.choose_spec (⟨t53, rfl⟩ : ∃ f, f = t53)
def tu85 : Int → Int → Int → Int → ByteArray → Rs := Classical.choose (⟨t85, rfl⟩ : ∃ f, f = t85)
theorem tu85_eq : tu85 = t85 := Classical.choose_spec (⟨t85, rfl⟩ : ∃ f, f = t85)
def tu94 : Int → Int → Int → Int → ByteArray → List (List D) → Rs := Classical.choose (⟨t94, rfl⟩ : ∃ f, f = t94)
theorem tu94_eq : tu94 = t94 := Classical.choose_spec (⟨t94, rfl⟩ : ∃ f, f = t94)
def tu86 : Int → Int → Int → Int → ByteArray → List (List D) → Int → Int → Int → Int → ByteArray → Rs := Classical.choose (⟨t86, rfl⟩ : ∃ f, f = t86)
theorem tu86_eq : tu86 = t86 := Classical.choose_spec (⟨t86, rfl⟩ : ∃ f, f = t86)
def tu65 : Int → Int → Int → Int → ByteArray → List (List D) → Int → Int → Rs := Classical.choose (⟨t65, rfl⟩ : ∃ f, f = t65)
theorem tu65_eq : tu65 = t65 := Classical.choose_spec (⟨t65, rfl⟩ : ∃ f, f = t65)
def tu52 : Int → Int → Int → Int → ByteArray → List (List D) → Int → Int → Int → Int → ByteArray → Rs := Classical.choose (⟨t52, rfl⟩ : ∃ f, f = t52)
theorem tu52_eq : tu52 = t52 := Classical.choose_spec (⟨t52, rfl⟩ : ∃ f, f = t52)
def tu63 : Int → Int → Int → Int → ByteArray → List (List D) → List (List D) → Int → Rs := Classical.choose (⟨t63, rfl⟩ : ∃ f, f = t63)
theorem tu63_eq : tu63 = t63 := Classical.choose_spec (⟨t63, rfl⟩ : ∃ f, f = t63)
def tu22 : Int → Int → Int → Int → ByteArray → List (List D) → List (List D) → Rs := Classical.choose (⟨t22, rfl⟩ : ∃ f, f = t22)
theorem tu22_eq : tu22 = t22 := Classical.choose_spec (⟨t22, rfl⟩ : ∃ f, f = t22)
def tu70 : Int → Int → Int → Int → ByteArray → List (List D) → List (List D) → Rs := Classical.choose (⟨t70, rfl⟩ : ∃ f, f = t70)
theorem tu70_eq : tu70 = t70 := Classical.choose_spec (⟨t70, rfl⟩ : ∃ f, f = t70)
def tu69 : Int → Int → Int → Int → ByteArray → List (List D) → List (List D) → List (List D) → Int → Rs := Classical.choose (⟨t69, rfl⟩ : ∃ f, f = t69)
theorem tu69_eq : tu69 = t69 := Classical.choose_spec (⟨t69, rfl⟩ : ∃ f, f = t69)
def tu40 : Int → Int → Int → Int → ByteArray → List (List D) → List (List D) → List (List D) → Int → Rs := Classical.choose (⟨t40, rfl⟩ : ∃ f, f = t40)
theorem tu40_eq : tu40 = t40 := Classical.choose_spec (⟨t40, rfl⟩ : ∃ f, f = t40)
def tu76 : Int → Int → Int → Rs := Classical.choose (⟨t76, rfl⟩ : ∃ f, f = t76)
theorem tu76_eq : tu76 = t76 := Classical.choose_spec (⟨t76, rfl⟩ : ∃ f, f = t76)
def tu56 : Int → Int → Int → Int → ByteArray → List (List D) → Rs := Classical.choose (⟨t56, rfl⟩ : ∃ f, f = t56)
theorem tu56_eq : tu56 = t56 := Classical.choose_spec (⟨t56, rfl⟩ : ∃ f, f = t56)
def tu57 : Int → Int → Int → Int → ByteArray → List (List D) → Rs := Classical.choose (⟨t57, rfl⟩ : ∃ f, f = t57)
theorem tu57_eq : tu57 = t57 := Classical.choose_spec (⟨t57, rfl⟩ : ∃ f, f = t57)
def tu45 : Int → Int → Int → Int → ByteArray → Rs := Classical.choose (⟨t45, rfl⟩ : ∃ f, f = t45)
theorem tu45_eq : tu45 = t45 := Classical.choose_spec (⟨t45, rfl⟩ : ∃ f, f = t45)
def tu95 : Int → Int → Int → Int → ByteArray → List (List D) → Rs := Classical.choose (⟨t95, rfl⟩ : ∃ f, f = t95)
theorem tu95_eq : tu95 = t95 := Classical.choose_spec (⟨t95, rfl⟩ : ∃ f, f = t95)
def tu88 : Int → Int → Int → Int → ByteArray → List (List D) → Int → Int → Int → Int → ByteArray → Rs := Classical.choose (⟨t88, rfl⟩ : ∃ f, f = t88)
theorem tu88_eq : tu88 = t88 := Classical.choose_spec (⟨t88, rfl⟩ : ∃ f, f = t88)
def tu58 : Int → Int → Int → Int → ByteArray → List (List D) → Int → Int → Int → Int → ByteArray → Rs := Classical.choose (⟨t58, rfl⟩ : ∃ f, f = t58)
theorem tu58_eq : tu58 = t58 := Classical.choose_spec (⟨t58, rfl⟩ : ∃ f, f = t58)
def tu64 : Int → Int → Int → Int → ByteArray → List (List D) → List (List D) → Rs := Classical.choose (⟨t64, rfl⟩ : ∃ f, f = t64)
theorem tu64_eq : tu64 = t64 := Classical.choose_spec (⟨t64, rfl⟩ : ∃ f, f = t64)
def tu71 : Int → Int → Int → Int → ByteArray → List (List D) → List (List D) → Rs := Classical.choose (⟨t71, rfl⟩ : ∃ f, f = t71)
theorem tu71_eq : tu71 = t71 := Classical.choose_spec (⟨t71, rfl⟩ : ∃ f, f = t71)
def tu42 : Int → Int → Int → Int → ByteArray → List (List D) → List (List D) → List (List D) → Int → Rs := Classical.choose (⟨t42, rfl⟩ : ∃ f, f = t42)
theorem tu42_eq : tu42 = t42 := Classical.choose_spec (⟨t42, rfl⟩ : ∃ f, f = t42)
def tu59 : Int → Int → ByteArray → Int → Int → ByteArray → Rs := Classical.choose (⟨t59, rfl⟩ : ∃ f, f = t59)
theorem tu59_eq : tu59 = t59 := Classical.choose_spec (⟨t59, rfl⟩ : ∃ f, f = t59)
def tu89 : Int → ByteArray → Int → ByteArray → Rs := Classical.choose (⟨t89, rfl⟩ : ∃ f, f = t89)
theorem tu89_eq : tu89 = t89 := Classical.choose_spec (⟨t89, rfl⟩ : ∃ f, f = t89)
def tu60 : List (List D) → List (List D) → Rs := Classical.choose (⟨t60, rfl⟩ : ∃ f, f = t60)
theorem tu60_eq : tu60 = t60 := Classical.choose_spec (⟨t60, rfl⟩ : ∃ f, f = t60)
def tu18 : Int → Int → Int → Int → ByteArray → List (List D) → Int → Int → Int → Int → ByteArray → List (List D) → Rs := Classical.choose (⟨t18, rfl⟩ : ∃ f, f = t18)
theorem tu18_eq : tu18 = t18 := Classical.choose_spec (⟨t18, rfl⟩ : ∃ f, f = t18)
def tu67 : Int → Int → Int → Int → ByteArray → Int → Int → Int → Int → ByteArray → Rs := Classical.choose (⟨t67, rfl⟩ : ∃ f, f = t67)
theorem tu67_eq : tu67 = t67 := Classical.choose_spec (⟨t67, rfl⟩ : ∃ f, f = t67)
def tu28 : List (List D) → List (List D) → Rs := Classical.choose (⟨t28, rfl⟩ : ∃ f, f = t28)
theorem tu28_eq : tu28 = t28 := Classical.choose_spec (⟨t28, rfl⟩ : ∃ f, f = t28)
def tu25 : Int → Int → Int → Int → ByteArray → List (List D) → List (List D) → Int → Int → Int → Int → ByteArray → List (List D) → List (List D) → Rs := Classical.choose (⟨t25, rfl⟩ : ∃ f, f = t25)
theorem tu25_eq : tu25 = t25 := Classical.choose_spec (⟨t25, rfl⟩ : ∃ f, f = t25)
def tu68 : Int → Rs := Classical.choose (⟨t68, rfl⟩ : ∃ f, f = t68)
theorem tu68_eq : tu68 = t68 := Classical.choose_spec (⟨t68, rfl⟩ : ∃ f, f = t68)
def tu61 : List (List D) → Int → Rs := Classical.choose (⟨t61, rfl⟩ : ∃ f, f = t61)
theorem tu61_eq : tu61 = t61 := Classical.choose_spec (⟨t61, rfl⟩ : ∃ f, f = t61)
def tu19 : Int → Int → Int → Int → ByteArray → List (List D) → Int → Rs := Classical.choose (⟨t19, rfl⟩ : ∃ f, f = t19)
theorem tu19_eq : tu19 = t19 := Classical.choose_spec (⟨t19, rfl⟩ : ∃ f, f = t19)
def tu29 : List (List D) → Int → Rs := Classical.choose (⟨t29, rfl⟩ : ∃ f, f = t29)
theorem tu29_eq : tu29 = t29 := Classical.choose_spec (⟨t29, rfl⟩ : ∃ f, f = t29)
def tu33 : Int → Int → Int → Int → ByteArray → List (List D) → List (List D) → Int → Rs := Classical.choose (⟨t33, rfl⟩ : ∃ f, f = t33)
theorem tu33_eq : tu33 = t33 := Classical.choose_spec (⟨t33, rfl⟩ : ∃ f, f = t33)
def tu62 : List (List D) → Int → Rs := Classical.choose (⟨t62, rfl⟩ : ∃ f, f = t62)
theorem tu62_eq : tu62 = t62 := Classical.choose_spec (⟨t62, rfl⟩ : ∃ f, f = t62)
def tu20 : Int → Int → Int → Int → ByteArray → List (List D) → Int → Rs := Classical.choose (⟨t20, rfl⟩ : ∃ f, f = t20)
theorem tu20_eq : tu20 = t20 := Classical.choose_spec (⟨t20, rfl⟩ : ∃ f, f = t20)
def tu30 : List (List D) → Int → Rs := Classical.choose (⟨t30, rfl⟩ : ∃ f, f = t30)
theorem tu30_eq : tu30 = t30 := Classical.choose_spec (⟨t30, rfl⟩ : ∃ f, f = t30)
def tu36 : Int → Int → Int → Int → ByteArray → List (List D) → List (List D) → Int → Rs := Classical.choose (⟨t36, rfl⟩ : ∃ f, f = t36)
theorem tu36_eq : tu36 = t36 := Classical.choose_spec (⟨t36, rfl⟩ : ∃ f, f = t36)
def tu9 : Int → Int → Int → Int → ByteArray → List (List D) → List (List D) → List (List D) → Int → Rs := Classical.choose (⟨t9, rfl⟩ : ∃ f, f = t9)
theorem tu9_eq : tu9 = t9 := Classical.choose_spec (⟨t9, rfl⟩ : ∃ f, f = t9)
theorem te49 : t49 = t49 := rfl
def tw49 (vs : List Vr) : Rs := t49 (vI vs 0) (vI vs 1) (vS vs 2) (vI vs 3)
def tp49 (vs : List Vr) : Rs := tu49 (vI vs 0) (vI vs 1) (vS vs 2) (vI vs 3)
theorem tpw49 : tp49 = tw49 := funext fun vs => by unfold tp49 tw49; rw [tu49_eq, te49]
def th49 (xs : List DV) : Bool × List DV × List (List D) := gOf zr49 zo49 (argsT A49 tp49 xs)
theorem te82 : t82 = t82 := rfl
def tw82 (vs : List Vr) : Rs := t82 (vI vs 0) (vS vs 1) (vI vs 2)
def tp82 (vs : List Vr) : Rs := tu82 (vI vs 0) (vS vs 1) (vI vs 2)
theorem tpw82 : tp82 = tw82 := funext fun vs => by unfold tp82 tw82; rw [tu82_eq, te82]
def th82 (xs : List DV) : Bool × List DV × List (List D) := gOf zr82 zo82 (argsT A82 tp82 xs)
def la50o1 (t82 : Int → ByteArray → Int → Rs) (l8 : List (List D)) (n10 : Int) (b12 : Bool) (q1 : Int → Int → Bool → Bool → Rs) (q2 : Int → Int → Bool → SV → Rs) : Nat → Int → Int → SV → SV → Rs
  | 0, _, _, _, _ => none
  | m + 1, n9, n11, v13, v14 =>
    let y1 := decide (n11 < (l8.length : Int))
    if y1 then
     let y2 := l8.getD n11.toNat []
     chk (decide (0 ≤ n11) && decide (n11 < l8.length) && isRow z105 y2) <|
     let y3 := t82 (asI (nthD y2 0)) (asS (nthD y2 1)) n9
     chk (okR zr82 zo82 y3) <|
     let y4 := asI (resC y3 0 0)
     let y5 := decide (y4 < (0 : Int))
     if y5 then
      q1 y4 n11 y1 y5
     else
      la50o1 t82 l8 n10 b12 q1 q2 m y4 (w64 (n11 + (1 : Int))) (.d (.b y1)) (.d (.b y5))
    else
     q2 n9 n11 y1 (keepV [] v14)
def ta50 (t82 : Int → ByteArray → Int → Rs) (l1 : List (List D)) (n2 : Int) : Rs :=
  let y1 := w64 (n2 - (l1.length : Int))
  let y2 := decide (y1 < (0 : Int))
  if y2 then
   some ([.one (.i .i64 (-1 : Int))], [])
  else
   la50o1 t82 l1 (0 : Int) y2
    (fun (n30 : Int) (n31 : Int) (b32 : Bool) (b33 : Bool) =>
     some ([.one (.i .i64 (-1 : Int))], []))
    (fun (n34 : Int) (n35 : Int) (b36 : Bool) (v37 : SV) =>
     some ([.one (.i .i64 n34)], [])) KK y1 (0 : Int) SV.undef SV.undef
theorem te50 : ta50 tu82 = t50 := (by rw [tu82_eq] : ta50 tu82 = ta50 t82).trans (by kernel_rfl)
def tw50 (vs : List Vr) : Rs := ta50 tu82 (vL vs 0) (vI vs 1)
def tp50 (vs : List Vr) : Rs := tu50 (vL vs 0) (vI vs 1)
theorem tpw50 : tp50 = tw50 := funext fun vs => by unfold tp50 tw50; rw [tu50_eq, te50]
def th50 (xs : List DV) : Bool × List DV × List (List D) := gOf zr50 zo50 (argsT A50 tp50 xs)
def ta12 (t49 : Int → Int → ByteArray → Int → Rs) (t50 : List (List D) → Int → Rs) (n1 : Int) (n2 : Int) (n3 : Int) (n4 : Int) (s5 : ByteArray) (l6 : List (List D)) (n7 : Int) : Rs :=
  let y1 := t49 n3 n4 s5 n7
  chk (okR zr49 zo49 y1) <|
  let y2 := asI (resC y1 0 0)
  if decide (y2 < (0 : Int)) then
   some ([.one (.i .i64 (-1 : Int))], [])
  else
   let y3 := t50 l6 y2
   chk (okR zr50 zo50 y3) <|
   let y4 := asI (resC y3 0 0)
   if decide (y4 < (0 : Int)) then
    some ([.one (.i .i64 (-1 : Int))], [])
   else
    some ([.one (.i .i64 y4)], [])
theorem te12 : ta12 tu49 tu50 = t12 := (by rw [tu49_eq, tu50_eq] : ta12 tu49 tu50 = ta12 t49 t50).trans (by kernel_rfl)
def tw12 (vs : List Vr) : Rs := ta12 tu49 tu50 (vI vs 0) (vI vs 1) (vI vs 2) (vI vs 3) (vS vs 4) (vL vs 5) (vI vs 6)
def tp12 (vs : List Vr) : Rs := tu12 (vI vs 0) (vI vs 1) (vI vs 2) (vI vs 3) (vS vs 4) (vL vs 5) (vI vs 6)
theorem tpw12 : tp12 = tw12 := funext fun vs => by unfold tp12 tw12; rw [tu12_eq, te12]
def th12 (xs : List DV) : Bool × List DV × List (List D) := gOf zr12 zo12 (argsT A12 tp12 xs)
theorem te13 : t13 = t13 := rfl
def tw13 (vs : List Vr) : Rs := t13 (vI vs 0) (vI vs 1) (vI vs 2) (vI vs 3) (vS vs 4) (vI vs 5)
def tp13 (vs : List Vr) : Rs := tu13 (vI vs 0) (vI vs 1) (vI vs 2) (vI vs 3) (vS vs 4) (vI vs 5)
theorem tpw13 : tp13 = tw13 := funext fun vs => by unfold tp13 tw13; rw [tu13_eq, te13]
def th13 (xs : List DV) : Bool × List DV × List (List D) := gOf zr13 zo13 (argsT A13 tp13 xs)
def la39o1 (t13 : Int → Int → Int → Int → ByteArray → Int → Rs) (l8 : List (List D)) (n10 : Int) (b12 : Bool) (q1 : Int → Int → Bool → Bool → Rs) (q2 : Int → Int → Bool → SV → Rs) : Nat → Int → Int → SV → SV → Rs
  | 0, _, _, _, _ => none
  | m + 1, n9, n11, v13, v14 =>
    let y1 := decide (n11 < (l8.length : Int))
    if y1 then
     let y2 := l8.getD n11.toNat []
     chk (decide (0 ≤ n11) && decide (n11 < l8.length) && isRow z28 y2) <|
     let y3 := t13 (asI (nthD y2 0)) (asI (nthD y2 1)) (asI (nthD y2 2)) (asI (nthD y2 3)) (asS (nthD y2 4)) n9
     chk (okR zr13 zo13 y3) <|
     let y4 := asI (resC y3 0 0)
     let y5 := decide (y4 < (0 : Int))
     if y5 then
      q1 y4 n11 y1 y5
     else
      la39o1 t13 l8 n10 b12 q1 q2 m y4 (w64 (n11 + (1 : Int))) (.d (.b y1)) (.d (.b y5))
    else
     q2 n9 n11 y1 (keepV [] v14)
def ta39 (t13 : Int → Int → Int → Int → ByteArray → Int → Rs) (l1 : List (List D)) (n2 : Int) : Rs :=
  let y1 := w64 (n2 - (l1.length : Int))
  let y2 := decide (y1 < (0 : Int))
  if y2 then
   some ([.one (.i .i64 (-1 : Int))], [])
  else
   la39o1 t13 l1 (0 : Int) y2
    (fun (n30 : Int) (n31 : Int) (b32 : Bool) (b33 : Bool) =>
     some ([.one (.i .i64 (-1 : Int))], []))
    (fun (n34 : Int) (n35 : Int) (b36 : Bool) (v37 : SV) =>
     some ([.one (.i .i64 n34)], [])) KK y1 (0 : Int) SV.undef SV.undef
theorem te39 : ta39 tu13 = t39 := (by rw [tu13_eq] : ta39 tu13 = ta39 t13).trans (by kernel_rfl)
def tw39 (vs : List Vr) : Rs := ta39 tu13 (vL vs 0) (vI vs 1)
def tp39 (vs : List Vr) : Rs := tu39 (vL vs 0) (vI vs 1)
theorem tpw39 : tp39 = tw39 := funext fun vs => by unfold tp39 tw39; rw [tu39_eq, te39]
def th39 (xs : List DV) : Bool × List DV × List (List D) := gOf zr39 zo39 (argsT A39 tp39 xs)
def ta21 (t12 : Int → Int → Int → Int → ByteArray → List (List D) → Int → Rs) (t39 : List (List D) → Int → Rs) (n1 : Int) (n2 : Int) (n3 : Int) (n4 : Int) (s5 : ByteArray) (l6 : List (List D)) (l7 : List (List D)) (n8 : Int) : Rs :=
  let y1 := t12 n1 n2 n3 n4 s5 l6 n8
  chk (okR zr12 zo12 y1) <|
  let y2 := asI (resC y1 0 0)
  if decide (y2 < (0 : Int)) then
   some ([.one (.i .i64 (-1 : Int))], [])
  else
   let y3 := t39 l7 y2
   chk (okR zr39 zo39 y3) <|
   let y4 := asI (resC y3 0 0)
   if decide (y4 < (0 : Int)) then
    some ([.one (.i .i64 (-1 : Int))], [])
   else
    some ([.one (.i .i64 y4)], [])
theorem te21 : ta21 tu12 tu39 = t21 := (by rw [tu12_eq, tu39_eq] : ta21 tu12 tu39 = ta21 t12 t39).trans (by kernel_rfl)
def tw21 (vs : List Vr) : Rs := ta21 tu12 tu39 (vI vs 0) (vI vs 1) (vI vs 2) (vI vs 3) (vS vs 4) (vL vs 5) (vL vs 6) (vI vs 7)
def tp21 (vs : List Vr) : Rs := tu21 (vI vs 0) (vI vs 1) (vI vs 2) (vI vs 3) (vS vs 4) (vL vs 5) (vL vs 6) (vI vs 7)
theorem tpw21 : tp21 = tw21 := funext fun vs => by unfold tp21 tw21; rw [tu21_eq, te21]
def th21 (xs : List DV) : Bool × List DV × List (List D) := gOf zr21 zo21 (argsT A21 tp21 xs)
theorem te54 : t54 = t54 := rfl
def tw54 (vs : List Vr) : Rs := t54 (vI vs 0) (vI vs 1) (vS vs 2)
def tp54 (vs : List Vr) : Rs := tu54 (vI vs 0) (vI vs 1) (vS vs 2)
theorem tpw54 : tp54 = tw54 := funext fun vs => by unfold tp54 tw54; rw [tu54_eq, te54]
def th54 (xs : List DV) : Bool × List DV × List (List D) := gOf zr54 zo54 (argsT A54 tp54 xs)
theorem te87 : t87 = t87 := rfl
def tw87 (vs : List Vr) : Rs := t87 (vI vs 0) (vS vs 1)
def tp87 (vs : List Vr) : Rs := tu87 (vI vs 0) (vS vs 1)
theorem tpw87 : tp87 = tw87 := funext fun vs => by unfold tp87 tw87; rw [tu87_eq, te87]
def th87 (xs : List DV) : Bool × List DV × List (List D) := gOf zr87 zo87 (argsT A87 tp87 xs)
def la55o0 (t87 : Int → ByteArray → Rs) (l5 : List (List D)) (q1 : Int → Bool → List (List D) → Rs) : Nat → Int → SV → List (List D) → Rs
  | 0, _, _, _ => none
  | m + 1, n6, v7, l8 =>
    let y1 := decide (n6 < (l5.length : Int))
    if y1 then
     let y2 := l5.getD n6.toNat []
     chk (decide (0 ≤ n6) && decide (n6 < l5.length) && isRow z105 y2) <|
     let y3 := t87 (asI (nthD y2 0)) (asS (nthD y2 1))
     chk (okR zr87 zo87 y3) <|
     chk (decide (0 ≤ n6) && decide (n6 < l8.length)) <|
     chk (decide (2 ≤ 2 ∧ (n6.toNat) < l8.length)) <|
     la55o0 t87 l5 q1 m (w64 (n6 + (1 : Int))) (.d (.b y1)) (stR l8 (n6.toNat) 0 [.i .i64 (asI (resC y3 0 0)), .s (asS (resC y3 0 1))])
    else
     q1 n6 y1 l8
def ta55 (t87 : Int → ByteArray → Rs) (l1 : List (List D)) : Rs :=
  let y1 := (l1.length : Int)
  chk (decide (0 ≤ y1 ∧ y1 ≤ lim ∧ y1 = y1)) <|
  la55o0 t87 l1
   (fun (n16 : Int) (b17 : Bool) (l18 : List (List D)) =>
    some ([.one (.l l18)], [])) KK (0 : Int) SV.undef (List.replicate y1.toNat z90)
theorem te55 : ta55 tu87 = t55 := (by rw [tu87_eq] : ta55 tu87 = ta55 t87).trans (by kernel_rfl)
def tw55 (vs : List Vr) : Rs := ta55 tu87 (vL vs 0)
def tp55 (vs : List Vr) : Rs := tu55 (vL vs 0)
theorem tpw55 : tp55 = tw55 := funext fun vs => by unfold tp55 tw55; rw [tu55_eq, te55]
def th55 (xs : List DV) : Bool × List DV × List (List D) := gOf zr55 zo55 (argsT A55 tp55 xs)
def ta15 (t54 : Int → Int → ByteArray → Rs) (t55 : List (List D) → Rs) (n1 : Int) (n2 : Int) (n3 : Int) (n4 : Int) (s5 : ByteArray) (l6 : List (List D)) : Rs :=
  let y1 := t54 n3 n4 s5
  chk (okR zr54 zo54 y1) <|
  chk (okR zr55 zo55 (t55 l6)) <|
  some ([.agg [.i .i64 n1, .i .i64 n2, .i .i64 (asI (resC y1 0 0)), .i .i64 (asI (resC y1 0 1)), .s (asS (resC y1 0 2)), .l (asL (resC (t55 l6) 0 0))]], [])
theorem te15 : ta15 tu54 tu55 = t15 := (by rw [tu54_eq, tu55_eq] : ta15 tu54 tu55 = ta15 t54 t55).trans (by kernel_rfl)
def tw15 (vs : List Vr) : Rs := ta15 tu54 tu55 (vI vs 0) (vI vs 1) (vI vs 2) (vI vs 3) (vS vs 4) (vL vs 5)
def tp15 (vs : List Vr) : Rs := tu15 (vI vs 0) (vI vs 1) (vI vs 2) (vI vs 3) (vS vs 4) (vL vs 5)
theorem tpw15 : tp15 = tw15 := funext fun vs => by unfold tp15 tw15; rw [tu15_eq, te15]
def th15 (xs : List DV) : Bool × List DV × List (List D) := gOf zr15 zo15 (argsT A15 tp15 xs)
theorem te16 : t16 = t16 := rfl
def tw16 (vs : List Vr) : Rs := t16 (vI vs 0) (vI vs 1) (vI vs 2) (vI vs 3) (vS vs 4)
def tp16 (vs : List Vr) : Rs := tu16 (vI vs 0) (vI vs 1) (vI vs 2) (vI vs 3) (vS vs 4)
theorem tpw16 : tp16 = tw16 := funext fun vs => by unfold tp16 tw16; rw [tu16_eq, te16]
def th16 (xs : List DV) : Bool × List DV × List (List D) := gOf zr16 zo16 (argsT A16 tp16 xs)
def la41o0 (t16 : Int → Int → Int → Int → ByteArray → Rs) (l5 : List (List D)) (q1 : Int → Bool → List (List D) → Rs) : Nat → Int → SV → List (List D) → Rs
  | 0, _, _, _ => none
  | m + 1, n6, v7, l8 =>
    let y1 := decide (n6 < (l5.length : Int))
    if y1 then
     let y2 := l5.getD n6.toNat []
     chk (decide (0 ≤ n6) && decide (n6 < l5.length) && isRow z28 y2) <|
     let y3 := t16 (asI (nthD y2 0)) (asI (nthD y2 1)) (asI (nthD y2 2)) (asI (nthD y2 3)) (asS (nthD y2 4))
     chk (okR zr16 zo16 y3) <|
     chk (decide (0 ≤ n6) && decide (n6 < l8.length)) <|
     chk (decide (5 ≤ 5 ∧ (n6.toNat) < l8.length)) <|
     la41o0 t16 l5 q1 m (w64 (n6 + (1 : Int))) (.d (.b y1)) (stR l8 (n6.toNat) 0 [.i .i64 (asI (resC y3 0 0)), .i .i64 (asI (resC y3 0 1)), .i .i64 (asI (resC y3 0 2)), .i .i64 (asI (resC y3 0 3)), .s (asS (resC y3 0 4))])
    else
     q1 n6 y1 l8
def ta41 (t16 : Int → Int → Int → Int → ByteArray → Rs) (l1 : List (List D)) : Rs :=
  let y1 := (l1.length : Int)
  chk (decide (0 ≤ y1 ∧ y1 ≤ lim ∧ y1 = y1)) <|
  la41o0 t16 l1
   (fun (n16 : Int) (b17 : Bool) (l18 : List (List D)) =>
    some ([.one (.l l18)], [])) KK (0 : Int) SV.undef (List.replicate y1.toNat z38)
theorem te41 : ta41 tu16 = t41 := (by rw [tu16_eq] : ta41 tu16 = ta41 t16).trans (by kernel_rfl)
def tw41 (vs : List Vr) : Rs := ta41 tu16 (vL vs 0)
def tp41 (vs : List Vr) : Rs := tu41 (vL vs 0)
theorem tpw41 : tp41 = tw41 := funext fun vs => by unfold tp41 tw41; rw [tu41_eq, te41]
def th41 (xs : List DV) : Bool × List DV × List (List D) := gOf zr41 zo41 (argsT A41 tp41 xs)
def ta23 (t15 : Int → Int → Int → Int → ByteArray → List (List D) → Rs) (t41 : List (List D) → Rs) (n1 : Int) (n2 : Int) (n3 : Int) (n4 : Int) (s5 : ByteArray) (l6 : List (List D)) (l7 : List (List D)) : Rs :=
  let y1 := t15 n1 n2 n3 n4 s5 l6
  chk (okR zr15 zo15 y1) <|
  chk (okR zr41 zo41 (t41 l7)) <|
  some ([.agg [.i .i64 (asI (resC y1 0 0)), .i .i64 (asI (resC y1 0 1)), .i .i64 (asI (resC y1 0 2)), .i .i64 (asI (resC y1 0 3)), .s (asS (resC y1 0 4)), .l (asL (resC y1 0 5)), .l (asL (resC (t41 l7) 0 0))]], [])
theorem te23 : ta23 tu15 tu41 = t23 := (by rw [tu15_eq, tu41_eq] : ta23 tu15 tu41 = ta23 t15 t41).trans (by kernel_rfl)
def tw23 (vs : List Vr) : Rs := ta23 tu15 tu41 (vI vs 0) (vI vs 1) (vI vs 2) (vI vs 3) (vS vs 4) (vL vs 5) (vL vs 6)
def tp23 (vs : List Vr) : Rs := tu23 (vI vs 0) (vI vs 1) (vI vs 2) (vI vs 3) (vS vs 4) (vL vs 5) (vL vs 6)
theorem tpw23 : tp23 = tw23 := funext fun vs => by unfold tp23 tw23; rw [tu23_eq, te23]
def th23 (xs : List DV) : Bool × List DV × List (List D) := gOf zr23 zo23 (argsT A23 tp23 xs)
theorem te83 : t83 = t83 := rfl
def tw83 (vs : List Vr) : Rs := t83 (vI vs 0) (vI vs 1) (vI vs 2)
def tp83 (vs : List Vr) : Rs := tu83 (vI vs 0) (vI vs 1) (vI vs 2)
theorem tpw83 : tp83 = tw83 := funext fun vs => by unfold tp83 tw83; rw [tu83_eq, te83]
def th83 (xs : List DV) : Bool × List DV × List (List D) := gOf zr83 zo83 (argsT A83 tp83 xs)
def ta84 (t83 : Int → Int → Int → Rs) (n1 : Int) (n2 : Int) : Rs :=
  if n1 == (0 : Int) then
   some ([.one (.b (n2 == (0 : Int)))], [])
  else
   let y1 := t83 n1 (1 : Int) (100000 : Int)
   chk (okR zr83 zo83 y1) <|
   let y2 := t83 n2 (1 : Int) (100000 : Int)
   let y3 := asB (resC y1 0 0)
   chk ((okR zr83 zo83 y2) || !y3) <|
   some ([.one (.b (y3 && (asB (resC y2 0 0))))], [])
theorem te84 : ta84 tu83 = t84 := (by rw [tu83_eq] : ta84 tu83 = ta84 t83).trans (by kernel_rfl)
def tw84 (vs : List Vr) : Rs := ta84 tu83 (vI vs 0) (vI vs 1)
def tp84 (vs : List Vr) : Rs := tu84 (vI vs 0) (vI vs 1)
theorem tpw84 : tp84 = tw84 := funext fun vs => by unfold tp84 tw84; rw [tu84_eq, te84]
def th84 (xs : List DV) : Bool × List DV × List (List D) := gOf zr84 zo84 (argsT A84 tp84 xs)
def la51o1 (t83 : Int → Int → Int → Rs) (t84 : Int → Int → Rs) (n23 : Int) (n24 : Int) (n25 : Int) (n26 : Int) (s27 : ByteArray) (l28 : List (List D)) (b29 : Bool) (b32 : Bool) (n35 : Int) (n36 : Int) (n37 : Int) (n38 : Int) (s39 : ByteArray) (l40 : List (List D)) (q1 : Int → Int → Bool → Bool → Int → ByteArray → Rs) (q2 : Int → Int → Bool → SV → Rs) : Nat → Int → Int → SV → SV → Rs
  | 0, _, _, _, _ => none
  | m + 1, n30, n31, v33, v34 =>
    let y1 := decide (n31 < (l40.length : Int))
    if y1 then
     let y2 := l40.getD n31.toNat []
     chk (decide (0 ≤ n31) && decide (n31 < l40.length) && isRow z90 y2) <|
     let y3 := asI (nthD y2 0)
     let y4 := asS (nthD y2 1)
     let y5 := (((decide (y3 < (1 : Int))) || (decide (y3 < n30))) || (decide (y3 > n35))) || (decide ((y4.size : Int) > (1600 : Int)))
     if y5 then
      q1 n30 n31 y1 y5 y3 y4
     else
      la51o1 t83 t84 n23 n24 n25 n26 s27 l28 b29 b32 n35 n36 n37 n38 s39 l40 q1 q2 m y3 (w64 (n31 + (1 : Int))) (.d (.b y1)) (.d (.b y5))
    else
     q2 n30 n31 y1 (keepV [64] v34)
def ta51 (t83 : Int → Int → Int → Rs) (t84 : Int → Int → Rs) (n1 : Int) (n2 : Int) (n3 : Int) (n4 : Int) (s5 : ByteArray) (l6 : List (List D)) : Rs :=
  let y1 := t83 n1 (0 : Int) (100000 : Int)
  chk (okR zr83 zo83 y1) <|
  let y2 := t83 n2 (-1 : Int) (4 : Int)
  let y3 := !(asB (resC y1 0 0))
  chk ((okR zr83 zo83 y2) || !(!y3)) <|
  let y4 := y3 || (!(asB (resC y2 0 0)))
  chk ((okR zr84 zo84 (t84 n3 n4)) || !(!y4)) <|
  let y5 := (((((y4 || (!(asB (resC (t84 n3 n4) 0 0)))) || ((n3 == (0 : Int)) && (!(s5.toList == (⟨#[]⟩ : ByteArray).toList)))) || (decide ((s5.size : Int) > (20000 : Int)))) || (decide (n4 > n1))) || (decide ((l6.length : Int) > (60 : Int)))) || (decide ((w64 (n3 + (l6.length : Int))) > (100000 : Int)))
  if y5 then
   some ([.one (.b false)], [])
  else
   la51o1 t83 t84 n1 n2 n3 n4 s5 l6 false y5 n1 n2 n3 n4 s5 l6
    (fun (n69 : Int) (n70 : Int) (b71 : Bool) (b72 : Bool) (n73 : Int) (s74 : ByteArray) =>
     some ([.one (.b false)], []))
    (fun (n75 : Int) (n76 : Int) (b77 : Bool) (v78 : SV) =>
     some ([.one (.b true)], [])) KK n4 (0 : Int) SV.undef SV.undef
theorem te51 : ta51 tu83 tu84 = t51 := (by rw [tu83_eq, tu84_eq] : ta51 tu83 tu84 = ta51 t83 t84).trans (by kernel_rfl)
def tw51 (vs : List Vr) : Rs := ta51 tu83 tu84 (vI vs 0) (vI vs 1) (vI vs 2) (vI vs 3) (vS vs 4) (vL vs 5)
def tp51 (vs : List Vr) : Rs := tu51 (vI vs 0) (vI vs 1) (vI vs 2) (vI vs 3) (vS vs 4) (vL vs 5)
theorem tpw51 : tp51 = tw51 := funext fun vs => by unfold tp51 tw51; rw [tu51_eq, te51]
def th51 (xs : List DV) : Bool × List DV × List (List D) := gOf zr51 zo51 (argsT A51 tp51 xs)
theorem te53 : t53 = t53 := rfl
def tw53 (vs : List Vr) : Rs := t53 (vI vs 0) (vI vs 1) (vI vs 2) (vI vs 3) (vS vs 4) (vL vs 5)
def tp53 (vs : List Vr) : Rs := tu53 (vI vs 0) (vI vs 1) (vI vs 2) (vI vs 3) (vS vs 4) (vL vs 5)
theorem tpw53 : tp53 = tw53 := funext fun vs => by unfold tp53 tw53; rw [tu53_eq, te53]
def th53 (xs : List DV) : Bool × List DV × List (List D) := gOf zr53 zo53 (argsT A53 tp53 xs)
def ta85 (t83 : Int → Int → Int → Rs) (n1 : Int) (n2 : Int) (n3 : Int) (n4 : Int) (s5 : ByteArray) : Rs :=
  if n1 == (1 : Int) then
   let y1 := t83 n2 (0 : Int) (100000 : Int)
   chk (okR zr83 zo83 y1) <|
   let y2 := t83 n4 (-1 : Int) (4 : Int)
   let y3 := asB (resC y1 0 0)
   chk ((okR zr83 zo83 y2) || !y3) <|
   some ([.one (.b (((y3 && (asB (resC y2 0 0))) && (n3 == (0 : Int))) && (s5.toList == (⟨#[]⟩ : ByteArray).toList)))], [])
  else
   if n1 == (2 : Int) then
    let y4 := t83 n2 (1 : Int) (100000 : Int)
    chk (okR zr83 zo83 y4) <|
    let y5 := t83 n3 (1 : Int) (100000 : Int)
    let y6 := asB (resC y4 0 0)
    chk ((okR zr83 zo83 y5) || !y6) <|
    some ([.one (.b (((y6 && (asB (resC y5 0 0))) && (n4 == (0 : Int))) && (decide ((s5.size : Int) ≤ (1600 : Int)))))], [])
   else
    if n1 == (3 : Int) then
     let y7 := t83 n3 (1 : Int) (100000 : Int)
     let y8 := n2 == (0 : Int)
     chk ((okR zr83 zo83 y7) || !y8) <|
     some ([.one (.b (((y8 && (asB (resC y7 0 0))) && (n4 == (0 : Int))) && (s5.toList == (⟨#[]⟩ : ByteArray).toList)))], [])
    else
     if n1 == (4 : Int) then
      let y9 := t83 n2 (1 : Int) (100000 : Int)
      chk (okR zr83 zo83 y9) <|
      let y10 := t83 n3 (1 : Int) (100000 : Int)
      let y11 := asB (resC y9 0 0)
      chk ((okR zr83 zo83 y10) || !y11) <|
      some ([.one (.b (((y11 && (asB (resC y10 0 0))) && (n4 == (0 : Int))) && (decide ((s5.size : Int) ≤ (20000 : Int)))))], [])
     else
      some ([.one (.b false)], [])
theorem te85 : ta85 tu83 = t85 := (by rw [tu83_eq] : ta85 tu83 = ta85 t83).trans (by kernel_rfl)
def tw85 (vs : List Vr) : Rs := ta85 tu83 (vI vs 0) (vI vs 1) (vI vs 2) (vI vs 3) (vS vs 4)
def tp85 (vs : List Vr) : Rs := tu85 (vI vs 0) (vI vs 1) (vI vs 2) (vI vs 3) (vS vs 4)
theorem tpw85 : tp85 = tw85 := funext fun vs => by unfold tp85 tw85; rw [tu85_eq, te85]
def th85 (xs : List DV) : Bool × List DV × List (List D) := gOf zr85 zo85 (argsT A85 tp85 xs)
theorem te94 : t94 = t94 := rfl
def tw94 (vs : List Vr) : Rs := t94 (vI vs 0) (vI vs 1) (vI vs 2) (vI vs 3) (vS vs 4) (vL vs 5)
def tp94 (vs : List Vr) : Rs := tu94 (vI vs 0) (vI vs 1) (vI vs 2) (vI vs 3) (vS vs 4) (vL vs 5)
theorem tpw94 : tp94 = tw94 := funext fun vs => by unfold tp94 tw94; rw [tu94_eq, te94]
def th94 (xs : List DV) : Bool × List DV × List (List D) := gOf zr94 zo94 (argsT A94 tp94 xs)
def ta86 (t94 : Int → Int → Int → Int → ByteArray → List (List D) → Rs) (n1 : Int) (n2 : Int) (n3 : Int) (n4 : Int) (s5 : ByteArray) (l6 : List (List D)) (n7 : Int) (n8 : Int) (n9 : Int) (n10 : Int) (s11 : ByteArray) : Rs :=
  if n7 == (1 : Int) then
   some ([.one (.b ((decide (n8 > n1)) || ((n8 == n1) && ((n2 == (-1 : Int)) || (n10 == n2)))))], [])
  else
   if n7 == (2 : Int) then
    let y1 := t94 n1 n2 n3 n4 s5 l6
    let y2 := w64 (n3 + (l6.length : Int))
    let y3 := (n9 == (w64 (y2 + (1 : Int)))) && (decide ((l6.length : Int) < (60 : Int)))
    chk ((okR zr94 zo94 y1) || !y3) <|
    some ([.one (.b ((y3 && (decide (n8 ≥ (asI (resC y1 0 0))))) && (decide (n8 ≤ n1))))], [])
   else
    if n7 == (3 : Int) then
     let y4 := w64 (n3 + (l6.length : Int))
     some ([.one (.b ((decide (n9 > n3)) && (decide (n9 ≤ y4))))], [])
    else
     if n7 == (4 : Int) then
      some ([.one (.b ((decide (n9 > n3)) && (decide (n8 ≤ n1))))], [])
     else
      some ([.one (.b false)], [])
theorem te86 : ta86 tu94 = t86 := (by rw [tu94_eq] : ta86 tu94 = ta86 t94).trans (by kernel_rfl)
def tw86 (vs : List Vr) : Rs := ta86 tu94 (vI vs 0) (vI vs 1) (vI vs 2) (vI vs 3) (vS vs 4) (vL vs 5) (vI vs 6) (vI vs 7) (vI vs 8) (vI vs 9) (vS vs 10)
def tp86 (vs : List Vr) : Rs := tu86 (vI vs 0) (vI vs 1) (vI vs 2) (vI vs 3) (vS vs 4) (vL vs 5) (vI vs 6) (vI vs 7) (vI vs 8) (vI vs 9) (vS vs 10)
theorem tpw86 : tp86 = tw86 := funext fun vs => by unfold tp86 tw86; rw [tu86_eq, te86]
def th86 (xs : List DV) : Bool × List DV × List (List D) := gOf zr86 zo86 (argsT A86 tp86 xs)
theorem te65 : t65 = t65 := rfl
def tw65 (vs : List Vr) : Rs := t65 (vI vs 0) (vI vs 1) (vI vs 2) (vI vs 3) (vS vs 4) (vL vs 5) (vI vs 6) (vI vs 7)
def tp65 (vs : List Vr) : Rs := tu65 (vI vs 0) (vI vs 1) (vI vs 2) (vI vs 3) (vS vs 4) (vL vs 5) (vI vs 6) (vI vs 7)
theorem tpw65 : tp65 = tw65 := funext fun vs => by unfold tp65 tw65; rw [tu65_eq, te65]
def th65 (xs : List DV) : Bool × List DV × List (List D) := gOf zr65 zo65 (argsT A65 tp65 xs)
def ta52 (t65 : Int → Int → Int → Int → ByteArray → List (List D) → Int → Int → Rs) (t85 : Int → Int → Int → Int → ByteArray → Rs) (t86 : Int → Int → Int → Int → ByteArray → List (List D) → Int → Int → Int → Int → ByteArray → Rs) (n1 : Int) (n2 : Int) (n3 : Int) (n4 : Int) (s5 : ByteArray) (l6 : List (List D)) (n7 : Int) (n8 : Int) (n9 : Int) (n10 : Int) (s11 : ByteArray) : Rs :=
  let y1 := t85 n7 n8 n9 n10 s11
  chk (okR zr85 zo85 y1) <|
  let y2 := t86 n1 n2 n3 n4 s5 l6 n7 n8 n9 n10 s11
  let y3 := !(asB (resC y1 0 0))
  chk ((okR zr86 zo86 y2) || !(!y3)) <|
  if y3 || (!(asB (resC y2 0 0))) then
   some ([.agg [.i .i64 n1, .i .i64 n2, .i .i64 n3, .i .i64 n4, .s s5, .l l6], .one (.b false)], [])
  else
   if n7 == (1 : Int) then
    some ([.agg [.i .i64 n8, .i .i64 n10, .i .i64 n3, .i .i64 n4, .s s5, .l l6], .one (.b true)], [])
   else
    if n7 == (2 : Int) then
     let y4 := ([[.i .i64 n8, .s s11]] : List (List D))
     chk ((flatR 2 y4) && decide (l6.length + y4.length ≤ lim)) <|
     some ([.agg [.i .i64 n1, .i .i64 n2, .i .i64 n3, .i .i64 n4, .s s5, .l (l6 ++ y4)], .one (.b true)], [])
    else
     if n7 == (3 : Int) then
      let y5 := w64 ((w64 (n9 - n3)) - (1 : Int))
      chk (decide (0 ≤ y5 ∧ y5 ≤ l6.length)) <|
      some ([.agg [.i .i64 n1, .i .i64 n2, .i .i64 n3, .i .i64 n4, .s s5, .l (l6.take y5.toNat)], .one (.b true)], [])
     else
      let y6 := t65 n1 n2 n3 n4 s5 l6 n9 n8
      chk (okR zr65 zo65 y6) <|
      some ([.agg [.i .i64 n1, .i .i64 n2, .i .i64 n9, .i .i64 n8, .s s11, .l (asL (resC y6 0 0))], .one (.b true)], [])
theorem te52 : ta52 tu65 tu85 tu86 = t52 := (by rw [tu65_eq, tu85_eq, tu86_eq] : ta52 tu65 tu85 tu86 = ta52 t65 t85 t86).trans (by kernel_rfl)
def tw52 (vs : List Vr) : Rs := ta52 tu65 tu85 tu86 (vI vs 0) (vI vs 1) (vI vs 2) (vI vs 3) (vS vs 4) (vL vs 5) (vI vs 6) (vI vs 7) (vI vs 8) (vI vs 9) (vS vs 10)
def tp52 (vs : List Vr) : Rs := tu52 (vI vs 0) (vI vs 1) (vI vs 2) (vI vs 3) (vS vs 4) (vL vs 5) (vI vs 6) (vI vs 7) (vI vs 8) (vI vs 9) (vS vs 10)
theorem tpw52 : tp52 = tw52 := funext fun vs => by unfold tp52 tw52; rw [tu52_eq, te52]
def th52 (xs : List DV) : Bool × List DV × List (List D) := gOf zr52 zo52 (argsT A52 tp52 xs)
def la63o0 (t52 : Int → Int → Int → Int → ByteArray → List (List D) → Int → Int → Int → Int → ByteArray → Rs) (t53 : Int → Int → Int → Int → ByteArray → List (List D) → Rs) (n37 : Int) (n38 : Int) (n39 : Int) (n40 : Int) (s41 : ByteArray) (l42 : List (List D)) (l43 : List (List D)) (n44 : Int) (b45 : Bool) (n50 : Int) (n51 : Int) (n52 : Int) (n53 : Int) (s54 : ByteArray) (l55 : List (List D)) (l56 : List (List D)) (n57 : Int) (n58 : Int) (n59 : Int) (n60 : Int) (s61 : ByteArray) (q1 : Int → Bool → Bool → Bool → Int → Int → Int → Int → ByteArray → Int → Int → Int → Int → ByteArray → List (List D) → Rs) (q2 : Int → SV → Bool → SV → Int → Int → Int → Int → ByteArray → List (List D) → Rs) : Nat → Int → SV → SV → SV → Int → Int → Int → Int → ByteArray → List (List D) → Rs
  | 0, _, _, _, _, _, _, _, _, _, _ => none
  | m + 1, n46, v47, v48, v49, n62, n63, n64, n65, s66, l67 =>
    let y1 := (decide (n46 < n44)) && (decide (n46 < (l56.length : Int)))
    if y1 then
     let y2 := l56.getD n46.toNat []
     chk (decide (0 ≤ n46) && decide (n46 < l56.length) && isRow z38 y2) <|
     let y3 := t52 n62 n63 n64 n65 s66 l67 (asI (nthD y2 0)) (asI (nthD y2 1)) (asI (nthD y2 2)) (asI (nthD y2 3)) (asS (nthD y2 4))
     chk (okR zr52 zo52 y3) <|
     let y4 := asB (resC y3 1 0)
     let y5 := !y4
     if y5 then
      let y6 := asI (resC y3 0 0)
      let y7 := asI (resC y3 0 1)
      let y8 := asI (resC y3 0 2)
      let y9 := asI (resC y3 0 3)
      let y10 := asS (resC y3 0 4)
      let y11 := asL (resC y3 0 5)
      q1 n46 y4 y1 y5 n62 n63 n64 n65 s66 y6 y7 y8 y9 y10 y11
     else
      let y12 := asI (resC y3 0 0)
      let y13 := asI (resC y3 0 1)
      let y14 := asI (resC y3 0 2)
      let y15 := asI (resC y3 0 3)
      let y16 := asS (resC y3 0 4)
      let y17 := asL (resC y3 0 5)
      la63o0 t52 t53 n37 n38 n39 n40 s41 l42 l43 n44 b45 n50 n51 n52 n53 s54 l55 l56 n57 n58 n59 n60 s61 q1 q2 m (w64 (n46 + (1 : Int))) (.d (.b y4)) (.d (.b y1)) (.d (.b y5)) y12 y13 y14 y15 y16 y17
    else
     q2 n46 (keepV [128, 256, 384, 24582] v47) y1 (keepV [128, 256, 384, 24582] v49) n62 n63 n64 n65 s66 l67
def ta63 (t52 : Int → Int → Int → Int → ByteArray → List (List D) → Int → Int → Int → Int → ByteArray → Rs) (t53 : Int → Int → Int → Int → ByteArray → List (List D) → Rs) (n1 : Int) (n2 : Int) (n3 : Int) (n4 : Int) (s5 : ByteArray) (l6 : List (List D)) (l7 : List (List D)) (n8 : Int) : Rs :=
  let y1 := t53 n1 n2 n3 n4 s5 l6
  chk (okR zr53 zo53 y1) <|
  la63o0 t52 t53 n1 n2 n3 n4 s5 l6 l7 n8 false n1 n2 n3 n4 s5 l6 l7 (0 : Int) (0 : Int) (0 : Int) (0 : Int) (⟨#[]⟩ : ByteArray)
   (fun (n124 : Int) (b125 : Bool) (b126 : Bool) (b127 : Bool) (n128 : Int) (n129 : Int) (n130 : Int) (n131 : Int) (s132 : ByteArray) (n133 : Int) (n134 : Int) (n135 : Int) (n136 : Int) (s137 : ByteArray) (l138 : List (List D)) =>
    some ([.agg [.i .i64 0, .i .i64 0, .i .i64 0, .i .i64 0, .s ⟨#[]⟩, .l []], .one (.b false)], []))
   (fun (n139 : Int) (v140 : SV) (b141 : Bool) (v142 : SV) (n143 : Int) (n144 : Int) (n145 : Int) (n146 : Int) (s147 : ByteArray) (l148 : List (List D)) =>
    some ([.agg [.i .i64 n143, .i .i64 n144, .i .i64 n145, .i .i64 n146, .s s147, .l l148], .one (.b true)], [])) KK (0 : Int) SV.undef SV.undef SV.undef (asI (resC y1 0 0)) (asI (resC y1 0 1)) (asI (resC y1 0 2)) (asI (resC y1 0 3)) (asS (resC y1 0 4)) (asL (resC y1 0 5))
theorem te63 : ta63 tu52 tu53 = t63 := (by rw [tu52_eq, tu53_eq] : ta63 tu52 tu53 = ta63 t52 t53).trans (by kernel_rfl)
def tw63 (vs : List Vr) : Rs := ta63 tu52 tu53 (vI vs 0) (vI vs 1) (vI vs 2) (vI vs 3) (vS vs 4) (vL vs 5) (vL vs 6) (vI vs 7)
def tp63 (vs : List Vr) : Rs := tu63 (vI vs 0) (vI vs 1) (vI vs 2) (vI vs 3) (vS vs 4) (vL vs 5) (vL vs 6) (vI vs 7)
theorem tpw63 : tp63 = tw63 := funext fun vs => by unfold tp63 tw63; rw [tu63_eq, te63]
def th63 (xs : List DV) : Bool × List DV × List (List D) := gOf zr63 zo63 (argsT A63 tp63 xs)
def ta22 (t51 : Int → Int → Int → Int → ByteArray → List (List D) → Rs) (t63 : Int → Int → Int → Int → ByteArray → List (List D) → List (List D) → Int → Rs) (n1 : Int) (n2 : Int) (n3 : Int) (n4 : Int) (s5 : ByteArray) (l6 : List (List D)) (l7 : List (List D)) : Rs :=
  let y1 := t51 n1 n2 n3 n4 s5 l6
  chk (okR zr51 zo51 y1) <|
  if (!(asB (resC y1 0 0))) || (decide ((l7.length : Int) > (80 : Int))) then
   some ([.one (.b false)], [])
  else
   let y2 := t63 n1 n2 n3 n4 s5 l6 l7 (l7.length : Int)
   chk (okR zr63 zo63 y2) <|
   some ([.one (.b (asB (resC y2 1 0)))], [])
theorem te22 : ta22 tu51 tu63 = t22 := (by rw [tu51_eq, tu63_eq] : ta22 tu51 tu63 = ta22 t51 t63).trans (by kernel_rfl)
def tw22 (vs : List Vr) : Rs := ta22 tu51 tu63 (vI vs 0) (vI vs 1) (vI vs 2) (vI vs 3) (vS vs 4) (vL vs 5) (vL vs 6)
def tp22 (vs : List Vr) : Rs := tu22 (vI vs 0) (vI vs 1) (vI vs 2) (vI vs 3) (vS vs 4) (vL vs 5) (vL vs 6)
theorem tpw22 : tp22 = tw22 := funext fun vs => by unfold tp22 tw22; rw [tu22_eq, te22]
def th22 (xs : List DV) : Bool × List DV × List (List D) := gOf zr22 zo22 (argsT A22 tp22 xs)
def ta70 (t53 : Int → Int → Int → Int → ByteArray → List (List D) → Rs) (n1 : Int) (n2 : Int) (n3 : Int) (n4 : Int) (s5 : ByteArray) (l6 : List (List D)) (l7 : List (List D)) : Rs :=
  let y1 := t53 n1 n2 n3 n4 s5 l6
  chk (okR zr53 zo53 y1) <|
  chk ((flatR 5 l7) && decide (([] : List (List D)).length + l7.length ≤ lim)) <|
  some ([.agg [.i .i64 (asI (resC y1 0 0)), .i .i64 (asI (resC y1 0 1)), .i .i64 (asI (resC y1 0 2)), .i .i64 (asI (resC y1 0 3)), .s (asS (resC y1 0 4)), .l (asL (resC y1 0 5)), .l (([] : List (List D)) ++ l7)]], [])
theorem te70 : ta70 tu53 = t70 := (by rw [tu53_eq] : ta70 tu53 = ta70 t53).trans (by kernel_rfl)
def tw70 (vs : List Vr) : Rs := ta70 tu53 (vI vs 0) (vI vs 1) (vI vs 2) (vI vs 3) (vS vs 4) (vL vs 5) (vL vs 6)
def tp70 (vs : List Vr) : Rs := tu70 (vI vs 0) (vI vs 1) (vI vs 2) (vI vs 3) (vS vs 4) (vL vs 5) (vL vs 6)
theorem tpw70 : tp70 = tw70 := funext fun vs => by unfold tp70 tw70; rw [tu70_eq, te70]
def th70 (xs : List DV) : Bool × List DV × List (List D) := gOf zr70 zo70 (argsT A70 tp70 xs)
def la69o0 (t52 : Int → Int → Int → Int → ByteArray → List (List D) → Int → Int → Int → Int → ByteArray → Rs) (t63 : Int → Int → Int → Int → ByteArray → List (List D) → List (List D) → Int → Rs) (l38 : List (List D)) (n39 : Int) (n40 : Int) (n46 : Int) (n47 : Int) (n48 : Int) (n49 : Int) (s50 : ByteArray) (n51 : Int) (n52 : Int) (n53 : Int) (n54 : Int) (s55 : ByteArray) (l61 : List (List D)) (q1 : SV → Int → SV → Bool → Bool → SV → Int → Int → Int → Int → ByteArray → List (List D) → List (List D) → Rs) (q2 : SV → Int → Bool → Bool → Bool → Bool → Int → Int → Int → Int → ByteArray → Int → Int → Int → Int → ByteArray → List (List D) → List (List D) → Rs) (q3 : SV → Int → SV → Bool → SV → SV → Int → Int → Int → Int → ByteArray → List (List D) → List (List D) → Rs) : Nat → SV → Int → SV → SV → SV → SV → Int → Int → Int → Int → ByteArray → List (List D) → List (List D) → Rs
  | 0, _, _, _, _, _, _, _, _, _, _, _, _, _ => none
  | m + 1, v37, n41, v42, v43, v44, v45, n56, n57, n58, n59, s60, l62, l63 =>
    let y1 := decide (n41 < (l38.length : Int))
    if y1 then
     let y2 := (decide (n41 ≥ n39)) || (decide ((l62.length : Int) ≥ (80 : Int)))
     if y2 then
      q1 v37 n41 v42 y1 y2 v45 n56 n57 n58 n59 s60 l62 l63
     else
      let y3 := l38.getD n41.toNat []
      chk (decide (0 ≤ n41) && decide (n41 < l38.length) && isRow z38 y3) <|
      let y4 := t52 n56 n57 n58 n59 s60 l63 (asI (nthD y3 0)) (asI (nthD y3 1)) (asI (nthD y3 2)) (asI (nthD y3 3)) (asS (nthD y3 4))
      chk (okR zr52 zo52 y4) <|
      let y5 := asB (resC y4 1 0)
      let y6 := !y5
      if y6 then
       let y7 := renV 2821 45062 (killV 32774 v37)
       let y8 := asI (resC y4 0 0)
       let y9 := asI (resC y4 0 1)
       let y10 := asI (resC y4 0 2)
       let y11 := asI (resC y4 0 3)
       let y12 := asS (resC y4 0 4)
       let y13 := asL (resC y4 0 5)
       q2 y7 n41 y5 y1 y2 y6 n56 n57 n58 n59 s60 y8 y9 y10 y11 y12 l62 y13
      else
       let y14 := l38.getD n41.toNat []
       chk (decide (0 ≤ n41) && decide (n41 < l38.length) && isRow z38 y14) <|
       let y15 := ([[.i .i64 (asI (nthD y14 0)), .i .i64 (asI (nthD y14 1)), .i .i64 (asI (nthD y14 2)), .i .i64 (asI (nthD y14 3)), .s (asS (nthD y14 4))]] : List (List D))
       chk ((flatR 5 y15) && decide (l62.length + y15.length ≤ lim)) <|
       let y16 := renV 2821 45062 (killV 32774 v37)
       let y17 := asI (resC y4 0 0)
       let y18 := asI (resC y4 0 1)
       let y19 := asI (resC y4 0 2)
       let y20 := asI (resC y4 0 3)
       let y21 := asS (resC y4 0 4)
       let y22 := asL (resC y4 0 5)
       la69o0 t52 t63 l38 n39 n40 n46 n47 n48 n49 s50 n51 n52 n53 n54 s55 l61 q1 q2 q3 m (keepV [192, 384, 512, 12294, 12295, 32774] (killV 12295 (renV 45062 32774 y16))) (w64 (n41 + (1 : Int))) (.d (.b y5)) (.d (.b y1)) (.d (.b y2)) (.d (.b y6)) y17 y18 y19 y20 y21 (l62 ++ y15) y22
    else
     q3 (keepV [192, 384, 512, 12294, 12295, 32774] v37) n41 (keepV [192, 384, 512, 12294, 12295, 32774] v42) y1 (keepV [192, 384, 512, 12294, 12295, 32774] v44) (keepV [192, 384, 512, 12294, 12295, 32774] v45) n56 n57 n58 n59 s60 l62 l63
def ta69 (t52 : Int → Int → Int → Int → ByteArray → List (List D) → Int → Int → Int → Int → ByteArray → Rs) (t63 : Int → Int → Int → Int → ByteArray → List (List D) → List (List D) → Int → Rs) (n1 : Int) (n2 : Int) (n3 : Int) (n4 : Int) (s5 : ByteArray) (l6 : List (List D)) (l7 : List (List D)) (l8 : List (List D)) (n9 : Int) : Rs :=
  let y1 := t63 n1 n2 n3 n4 s5 l6 l7 (l7.length : Int)
  chk ((okR zr63 zo63 y1) && (asB (resC y1 1 0))) <|
  la69o0 t52 t63 l8 n9 (0 : Int) n1 n2 n3 n4 s5 (0 : Int) (0 : Int) (0 : Int) (0 : Int) (⟨#[]⟩ : ByteArray) l6
   (fun (v135 : SV) (n136 : Int) (v137 : SV) (b138 : Bool) (b139 : Bool) (v140 : SV) (n141 : Int) (n142 : Int) (n143 : Int) (n144 : Int) (s145 : ByteArray) (l146 : List (List D)) (l147 : List (List D)) =>
    some ([.agg [.i .i64 n1, .i .i64 n2, .i .i64 n3, .i .i64 n4, .s s5, .l l6, .l l146], .one (.i .i64 n136)], []))
   (fun (v148 : SV) (n149 : Int) (b150 : Bool) (b151 : Bool) (b152 : Bool) (b153 : Bool) (n154 : Int) (n155 : Int) (n156 : Int) (n157 : Int) (s158 : ByteArray) (n159 : Int) (n160 : Int) (n161 : Int) (n162 : Int) (s163 : ByteArray) (l164 : List (List D)) (l165 : List (List D)) =>
    some ([.agg [.i .i64 n1, .i .i64 n2, .i .i64 n3, .i .i64 n4, .s s5, .l l6, .l l164], .one (.i .i64 n149)], []))
   (fun (v166 : SV) (n167 : Int) (v168 : SV) (b169 : Bool) (v170 : SV) (v171 : SV) (n172 : Int) (n173 : Int) (n174 : Int) (n175 : Int) (s176 : ByteArray) (l177 : List (List D)) (l178 : List (List D)) =>
    some ([.agg [.i .i64 n1, .i .i64 n2, .i .i64 n3, .i .i64 n4, .s s5, .l l6, .l l177], .one (.i .i64 (l8.length : Int))], [])) KK (SV.agg [(.d (.i .i64 n1)), (.d (.i .i64 n2)), (.d (.i .i64 n3)), (.d (.i .i64 n4)), (.d (.s s5)), (SV.own 12294), (SV.own 12295)]) (0 : Int) SV.undef SV.undef SV.undef SV.undef (asI (resC y1 0 0)) (asI (resC y1 0 1)) (asI (resC y1 0 2)) (asI (resC y1 0 3)) (asS (resC y1 0 4)) l7 (asL (resC y1 0 5))
theorem te69 : ta69 tu52 tu63 = t69 := (by rw [tu52_eq, tu63_eq] : ta69 tu52 tu63 = ta69 t52 t63).trans (by kernel_rfl)
def tw69 (vs : List Vr) : Rs := ta69 tu52 tu63 (vI vs 0) (vI vs 1) (vI vs 2) (vI vs 3) (vS vs 4) (vL vs 5) (vL vs 6) (vL vs 7) (vI vs 8)
def tp69 (vs : List Vr) : Rs := tu69 (vI vs 0) (vI vs 1) (vI vs 2) (vI vs 3) (vS vs 4) (vL vs 5) (vL vs 6) (vL vs 7) (vI vs 8)
theorem tpw69 : tp69 = tw69 := funext fun vs => by unfold tp69 tw69; rw [tu69_eq, te69]
def th69 (xs : List DV) : Bool × List DV × List (List D) := gOf zr69 zo69 (argsT A69 tp69 xs)
def ta40 (t22 : Int → Int → Int → Int → ByteArray → List (List D) → List (List D) → Rs) (t69 : Int → Int → Int → Int → ByteArray → List (List D) → List (List D) → List (List D) → Int → Rs) (t70 : Int → Int → Int → Int → ByteArray → List (List D) → List (List D) → Rs) (n1 : Int) (n2 : Int) (n3 : Int) (n4 : Int) (s5 : ByteArray) (l6 : List (List D)) (l7 : List (List D)) (l8 : List (List D)) (n9 : Int) : Rs :=
  let y1 := t22 n1 n2 n3 n4 s5 l6 l7
  chk (okR zr22 zo22 y1) <|
  if !(asB (resC y1 0 0)) then
   some ([.agg [.i .i64 (0 : Int), .i .i64 (0 : Int), .i .i64 (0 : Int), .i .i64 (0 : Int), .s (⟨#[]⟩ : ByteArray), .l ([] : List (List D)), .l ([] : List (List D))], .one (.i .i64 (0 : Int))], [])
  else
   let y2 := t70 n1 n2 n3 n4 s5 l6 l7
   chk (okR zr70 zo70 y2) <|
   let y3 := t69 (asI (resC y2 0 0)) (asI (resC y2 0 1)) (asI (resC y2 0 2)) (asI (resC y2 0 3)) (asS (resC y2 0 4)) (asL (resC y2 0 5)) (asL (resC y2 0 6)) l8 n9
   chk (okR zr69 zo69 y3) <|
   some ([.agg [.i .i64 (asI (resC y3 0 0)), .i .i64 (asI (resC y3 0 1)), .i .i64 (asI (resC y3 0 2)), .i .i64 (asI (resC y3 0 3)), .s (asS (resC y3 0 4)), .l (asL (resC y3 0 5)), .l (asL (resC y3 0 6))], .one (.i .i64 (asI (resC y3 1 0)))], [])
theorem te40 : ta40 tu22 tu69 tu70 = t40 := (by rw [tu22_eq, tu69_eq, tu70_eq] : ta40 tu22 tu69 tu70 = ta40 t22 t69 t70).trans (by kernel_rfl)
def tw40 (vs : List Vr) : Rs := ta40 tu22 tu69 tu70 (vI vs 0) (vI vs 1) (vI vs 2) (vI vs 3) (vS vs 4) (vL vs 5) (vL vs 6) (vL vs 7) (vI vs 8)
def tp40 (vs : List Vr) : Rs := tu40 (vI vs 0) (vI vs 1) (vI vs 2) (vI vs 3) (vS vs 4) (vL vs 5) (vL vs 6) (vL vs 7) (vI vs 8)
theorem tpw40 : tp40 = tw40 := funext fun vs => by unfold tp40 tw40; rw [tu40_eq, te40]
def th40 (xs : List DV) : Bool × List DV × List (List D) := gOf zr40 zo40 (argsT A40 tp40 xs)
theorem te76 : t76 = t76 := rfl
def tw76 (vs : List Vr) : Rs := t76 (vI vs 0) (vI vs 1) (vI vs 2)
def tp76 (vs : List Vr) : Rs := tu76 (vI vs 0) (vI vs 1) (vI vs 2)
theorem tpw76 : tp76 = tw76 := funext fun vs => by unfold tp76 tw76; rw [tu76_eq, te76]
def th76 (xs : List DV) : Bool × List DV × List (List D) := gOf zr76 zo76 (argsT A76 tp76 xs)
def la56o2 (t76 : Int → Int → Int → Rs) (n26 : Int) (n27 : Int) (n28 : Int) (n29 : Int) (s30 : ByteArray) (l31 : List (List D)) (b32 : Bool) (b34 : Bool) (b35 : Bool) (l36 : List (List D)) (n37 : Int) (n41 : Int) (n42 : Int) (n43 : Int) (n44 : Int) (s45 : ByteArray) (l46 : List (List D)) (q1 : Int → Int → Bool → Bool → Int → ByteArray → Rs) (q2 : Int → Int → Bool → SV → Rs) : Nat → Int → Int → SV → SV → Rs
  | 0, _, _, _, _ => none
  | m + 1, n33, n38, v39, v40 =>
    let y1 := decide (n38 < n37)
    if y1 then
     let y2 := l36.getD n38.toNat []
     chk (decide (0 ≤ n38) && decide (n38 < l36.length) && isRow z90 y2) <|
     let y3 := asI (nthD y2 0)
     let y4 := t76 y3 n33 n41
     let y5 := asS (nthD y2 1)
     let y6 := decide ((y5.size : Int) > (1600 : Int))
     chk ((okR zr76 zo76 y4) || !(!y6)) <|
     let y7 := y6 || (!(asB (resC y4 0 0)))
     if y7 then
      q1 n33 n38 y1 y7 y3 y5
     else
      la56o2 t76 n26 n27 n28 n29 s30 l31 b32 b34 b35 l36 n37 n41 n42 n43 n44 s45 l46 q1 q2 m y3 (w64 (n38 + (1 : Int))) (.d (.b y1)) (.d (.b y7))
    else
     q2 n33 n38 y1 (keepV [64] v40)
def ta56 (t76 : Int → Int → Int → Rs) (n1 : Int) (n2 : Int) (n3 : Int) (n4 : Int) (s5 : ByteArray) (l6 : List (List D)) : Rs :=
  let y1 := t76 n1 (0 : Int) (100000 : Int)
  chk (okR zr76 zo76 y1) <|
  let y2 := t76 n2 (-1 : Int) (4 : Int)
  let y3 := !(asB (resC y1 0 0))
  chk ((okR zr76 zo76 y2) || !(!y3)) <|
  let y4 := (y3 || (!(asB (resC y2 0 0)))) || (decide ((l6.length : Int) > (60 : Int)))
  if y4 then
   some ([.one (.b false)], [])
  else
   let y5 := t76 n3 (1 : Int) (100000 : Int)
   let y6 := !((n3 == (0 : Int)) && ((n4 == (0 : Int)) && ((s5.toList == (⟨#[]⟩ : ByteArray).toList) && true)))
   chk ((okR zr76 zo76 y5) || !y6) <|
   let y7 := t76 n4 (1 : Int) n1
   let y8 := !(asB (resC y5 0 0))
   chk ((okR zr76 zo76 y7) || !(y6 && (!y8))) <|
   let y9 := y6 && ((y8 || (!(asB (resC y7 0 0)))) || (decide ((s5.size : Int) > (20000 : Int))))
   if y9 then
    some ([.one (.b false)], [])
   else
    la56o2 t76 n1 n2 n3 n4 s5 l6 false y4 y9 l6 (l6.length : Int) n1 n2 n3 n4 s5 l6
     (fun (n78 : Int) (n79 : Int) (b80 : Bool) (b81 : Bool) (n82 : Int) (s83 : ByteArray) =>
      some ([.one (.b false)], []))
     (fun (n84 : Int) (n85 : Int) (b86 : Bool) (v87 : SV) =>
      some ([.one (.b (decide ((w64 (n3 + (l6.length : Int))) ≤ (100000 : Int))))], [])) KK (if n4 > (1 : Int) then n4 else (1 : Int)) (0 : Int) SV.undef SV.undef
theorem te56 : ta56 tu76 = t56 := (by rw [tu76_eq] : ta56 tu76 = ta56 t76).trans (by kernel_rfl)
def tw56 (vs : List Vr) : Rs := ta56 tu76 (vI vs 0) (vI vs 1) (vI vs 2) (vI vs 3) (vS vs 4) (vL vs 5)
def tp56 (vs : List Vr) : Rs := tu56 (vI vs 0) (vI vs 1) (vI vs 2) (vI vs 3) (vS vs 4) (vL vs 5)
theorem tpw56 : tp56 = tw56 := funext fun vs => by unfold tp56 tw56; rw [tu56_eq, te56]
def th56 (xs : List DV) : Bool × List DV × List (List D) := gOf zr56 zo56 (argsT A56 tp56 xs)
theorem te57 : t57 = t57 := rfl
def tw57 (vs : List Vr) : Rs := t57 (vI vs 0) (vI vs 1) (vI vs 2) (vI vs 3) (vS vs 4) (vL vs 5)
def tp57 (vs : List Vr) : Rs := tu57 (vI vs 0) (vI vs 1) (vI vs 2) (vI vs 3) (vS vs 4) (vL vs 5)
theorem tpw57 : tp57 = tw57 := funext fun vs => by unfold tp57 tw57; rw [tu57_eq, te57]
def th57 (xs : List DV) : Bool × List DV × List (List D) := gOf zr57 zo57 (argsT A57 tp57 xs)
def ta45 (t76 : Int → Int → Int → Rs) (n1 : Int) (n2 : Int) (n3 : Int) (n4 : Int) (s5 : ByteArray) : Rs :=
  if n1 == (1 : Int) then
   let y1 := t76 n2 (0 : Int) (100000 : Int)
   chk (okR zr76 zo76 y1) <|
   let y2 := t76 n4 (-1 : Int) (4 : Int)
   let y3 := asB (resC y1 0 0)
   chk ((okR zr76 zo76 y2) || !y3) <|
   some ([.one (.b ((y3 && (asB (resC y2 0 0))) && ((n1 == n1) && ((n2 == n2) && ((n3 == (0 : Int)) && ((n4 == n4) && ((s5.toList == (⟨#[]⟩ : ByteArray).toList) && true)))))))], [])
  else
   if n1 == (2 : Int) then
    let y4 := t76 n2 (1 : Int) (100000 : Int)
    chk (okR zr76 zo76 y4) <|
    let y5 := t76 n3 (1 : Int) (100000 : Int)
    let y6 := asB (resC y4 0 0)
    chk ((okR zr76 zo76 y5) || !y6) <|
    some ([.one (.b (((y6 && (asB (resC y5 0 0))) && (decide ((s5.size : Int) ≤ (1600 : Int)))) && ((n1 == n1) && ((n2 == n2) && ((n3 == n3) && ((n4 == (0 : Int)) && ((s5.toList == s5.toList) && true)))))))], [])
   else
    if n1 == (3 : Int) then
     let y7 := t76 n3 (1 : Int) (100000 : Int)
     chk (okR zr76 zo76 y7) <|
     some ([.one (.b ((asB (resC y7 0 0)) && ((n1 == n1) && ((n2 == (0 : Int)) && ((n3 == n3) && ((n4 == (0 : Int)) && ((s5.toList == (⟨#[]⟩ : ByteArray).toList) && true)))))))], [])
    else
     let k1 := fun (b6 : Bool) (n7 : Int) (n8 : Int) (s9 : ByteArray) =>
      some ([.one (.b (b6 && ((n1 == n1) && ((n2 == n7) && ((n3 == n8) && ((n4 == (0 : Int)) && ((s5.toList == s9.toList) && true)))))))], [])
     if n1 == (4 : Int) then
      let y8 := t76 n2 (1 : Int) (100000 : Int)
      chk (okR zr76 zo76 y8) <|
      let y9 := t76 n3 (1 : Int) (100000 : Int)
      let y10 := asB (resC y8 0 0)
      chk ((okR zr76 zo76 y9) || !y10) <|
      k1 ((y10 && (asB (resC y9 0 0))) && (decide ((s5.size : Int) ≤ (20000 : Int)))) n2 n3 s5
     else
      k1 false (0 : Int) (0 : Int) (⟨#[]⟩ : ByteArray)
theorem te45 : ta45 tu76 = t45 := (by rw [tu76_eq] : ta45 tu76 = ta45 t76).trans (by kernel_rfl)
def tw45 (vs : List Vr) : Rs := ta45 tu76 (vI vs 0) (vI vs 1) (vI vs 2) (vI vs 3) (vS vs 4)
def tp45 (vs : List Vr) : Rs := tu45 (vI vs 0) (vI vs 1) (vI vs 2) (vI vs 3) (vS vs 4)
theorem tpw45 : tp45 = tw45 := funext fun vs => by unfold tp45 tw45; rw [tu45_eq, te45]
def th45 (xs : List DV) : Bool × List DV × List (List D) := gOf zr45 zo45 (argsT A45 tp45 xs)
theorem te95 : t95 = t95 := rfl
def tw95 (vs : List Vr) : Rs := t95 (vI vs 0) (vI vs 1) (vI vs 2) (vI vs 3) (vS vs 4) (vL vs 5)
def tp95 (vs : List Vr) : Rs := tu95 (vI vs 0) (vI vs 1) (vI vs 2) (vI vs 3) (vS vs 4) (vL vs 5)
theorem tpw95 : tp95 = tw95 := funext fun vs => by unfold tp95 tw95; rw [tu95_eq, te95]
def th95 (xs : List DV) : Bool × List DV × List (List D) := gOf zr95 zo95 (argsT A95 tp95 xs)
def ta88 (t76 : Int → Int → Int → Rs) (t95 : Int → Int → Int → Int → ByteArray → List (List D) → Rs) (n1 : Int) (n2 : Int) (n3 : Int) (n4 : Int) (s5 : ByteArray) (l6 : List (List D)) (n7 : Int) (n8 : Int) (n9 : Int) (n10 : Int) (s11 : ByteArray) : Rs :=
  let y1 := t95 n1 n2 n3 n4 s5 l6
  chk (okR zr95 zo95 y1) <|
  if n7 == (1 : Int) then
   some ([.one (.b ((decide (n8 > n1)) || ((n8 == n1) && ((n2 == (-1 : Int)) || (n2 == n10)))))], [])
  else
   if n7 == (2 : Int) then
    let y2 := t76 n8 (asI (resC y1 1 0)) n1
    let y3 := asI (resC y1 0 0)
    let y4 := (n9 == (w64 (y3 + (1 : Int)))) && (decide ((l6.length : Int) < (60 : Int)))
    chk ((okR zr76 zo76 y2) || !y4) <|
    some ([.one (.b (y4 && (asB (resC y2 0 0))))], [])
   else
    if n7 == (3 : Int) then
     let y5 := asI (resC y1 0 0)
     let y6 := t76 n9 (w64 (n3 + (1 : Int))) y5
     chk (okR zr76 zo76 y6) <|
     some ([.one (.b (asB (resC y6 0 0)))], [])
    else
     some ([.one (.b ((decide (n9 > n3)) && (decide (n8 ≤ n1))))], [])
theorem te88 : ta88 tu76 tu95 = t88 := (by rw [tu76_eq, tu95_eq] : ta88 tu76 tu95 = ta88 t76 t95).trans (by kernel_rfl)
def tw88 (vs : List Vr) : Rs := ta88 tu76 tu95 (vI vs 0) (vI vs 1) (vI vs 2) (vI vs 3) (vS vs 4) (vL vs 5) (vI vs 6) (vI vs 7) (vI vs 8) (vI vs 9) (vS vs 10)
def tp88 (vs : List Vr) : Rs := tu88 (vI vs 0) (vI vs 1) (vI vs 2) (vI vs 3) (vS vs 4) (vL vs 5) (vI vs 6) (vI vs 7) (vI vs 8) (vI vs 9) (vS vs 10)
theorem tpw88 : tp88 = tw88 := funext fun vs => by unfold tp88 tw88; rw [tu88_eq, te88]
def th88 (xs : List DV) : Bool × List DV × List (List D) := gOf zr88 zo88 (argsT A88 tp88 xs)
def ta58 (t45 : Int → Int → Int → Int → ByteArray → Rs) (t88 : Int → Int → Int → Int → ByteArray → List (List D) → Int → Int → Int → Int → ByteArray → Rs) (n1 : Int) (n2 : Int) (n3 : Int) (n4 : Int) (s5 : ByteArray) (l6 : List (List D)) (n7 : Int) (n8 : Int) (n9 : Int) (n10 : Int) (s11 : ByteArray) : Rs :=
  let y1 := t45 n7 n8 n9 n10 s11
  chk (okR zr45 zo45 y1) <|
  let y2 := t88 n1 n2 n3 n4 s5 l6 n7 n8 n9 n10 s11
  let y3 := !(asB (resC y1 0 0))
  chk ((okR zr88 zo88 y2) || !(!y3)) <|
  if y3 || (!(asB (resC y2 0 0))) then
   some ([.one (.b false)], [[.i .i64 n1, .i .i64 n2, .i .i64 n3, .i .i64 n4, .s s5, .l l6]])
  else
   if n7 == (1 : Int) then
    some ([.one (.b true)], [[.i .i64 n8, .i .i64 n10, .i .i64 n3, .i .i64 n4, .s s5, .l l6]])
   else
    if n7 == (2 : Int) then
     let y4 := ([[.i .i64 n8, .s s11]] : List (List D))
     chk ((flatR 2 y4) && decide (l6.length + y4.length ≤ lim)) <|
     some ([.one (.b true)], [[.i .i64 n1, .i .i64 n2, .i .i64 n3, .i .i64 n4, .s s5, .l (l6 ++ y4)]])
    else
     if n7 == (3 : Int) then
      let y5 := w64 ((w64 (n9 - n3)) - (1 : Int))
      chk (decide (0 ≤ y5 ∧ y5 ≤ l6.length ∧ y5 = y5)) <|
      some ([.one (.b true)], [[.i .i64 n1, .i .i64 n2, .i .i64 n3, .i .i64 n4, .s s5, .l (l6.take y5.toNat)]])
     else
      let y6 := w64 (n9 - n3)
      let y7 := w64 (y6 - (1 : Int))
      let y8 := decide (y6 ≤ (l6.length : Int))
      chk ((decide (0 ≤ y7) && decide (y7 < l6.length)) || !y8) <|
      let y9 := l6.getD (y7.toNat) []
      chk ((decide (1 ≤ y9.length) && isF z3 0 y9) || !y8) <|
      if y8 && ((asI (nthD y9 0)) == n8) then
       chk (decide (0 ≤ y6 ∧ y6 ≤ l6.length)) <|
       let y10 := l6.drop y6.toNat
       chk ((flatR 2 y10) && decide (y10.length ≤ lim)) <|
       some ([.one (.b true)], [[.i .i64 n1, .i .i64 n2, .i .i64 n9, .i .i64 n8, .s s11, .l y10]])
      else
       some ([.one (.b true)], [[.i .i64 n1, .i .i64 n2, .i .i64 n9, .i .i64 n8, .s s11, .l ([] : List (List D))]])
theorem te58 : ta58 tu45 tu88 = t58 := (by rw [tu45_eq, tu88_eq] : ta58 tu45 tu88 = ta58 t45 t88).trans (by kernel_rfl)
def tw58 (vs : List Vr) : Rs := ta58 tu45 tu88 (vI vs 0) (vI vs 1) (vI vs 2) (vI vs 3) (vS vs 4) (vL vs 5) (vI vs 6) (vI vs 7) (vI vs 8) (vI vs 9) (vS vs 10)
def tp58 (vs : List Vr) : Rs := tu58 (vI vs 0) (vI vs 1) (vI vs 2) (vI vs 3) (vS vs 4) (vL vs 5) (vI vs 6) (vI vs 7) (vI vs 8) (vI vs 9) (vS vs 10)
theorem tpw58 : tp58 = tw58 := funext fun vs => by unfold tp58 tw58; rw [tu58_eq, te58]
def th58 (xs : List DV) : Bool × List DV × List (List D) := gOf zr58 zo58 (argsT A58 tp58 xs)
def la64o1 (t56 : Int → Int → Int → Int → ByteArray → List (List D) → Rs) (t57 : Int → Int → Int → Int → ByteArray → List (List D) → Rs) (t58 : Int → Int → Int → Int → ByteArray → List (List D) → Int → Int → Int → Int → ByteArray → Rs) (n31 : Int) (n32 : Int) (n33 : Int) (n34 : Int) (s35 : ByteArray) (l36 : List (List D)) (l37 : List (List D)) (b38 : Bool) (b39 : Bool) (l40 : List (List D)) (n41 : Int) (n45 : Int) (n46 : Int) (n47 : Int) (n48 : Int) (s49 : ByteArray) (q1 : Int → Bool → Bool → ByteArray → Int → Int → Int → Int → ByteArray → Int → Int → Int → Int → ByteArray → List (List D) → Rs) (q2 : Int → Bool → SV → Int → Int → Int → Int → ByteArray → List (List D) → Rs) : Nat → Int → SV → SV → Int → Int → Int → Int → ByteArray → List (List D) → Rs
  | 0, _, _, _, _, _, _, _, _, _ => none
  | m + 1, n42, v43, v44, n50, n51, n52, n53, s54, l55 =>
    let y1 := decide (n42 < n41)
    if y1 then
     let y2 := l40.getD n42.toNat []
     chk (decide (0 ≤ n42) && decide (n42 < l40.length) && isRow z38 y2) <|
     let y3 := asI (nthD y2 0)
     let y4 := asI (nthD y2 1)
     let y5 := asI (nthD y2 2)
     let y6 := asI (nthD y2 3)
     let y7 := asS (nthD y2 4)
     let y8 := t58 n50 n51 n52 n53 s54 l55 y3 y4 y5 y6 y7
     chk (okR zr58 zo58 y8) <|
     let y9 := !(asB (resC y8 0 0))
     if y9 then
      let y10 := asI (outC y8 0 0)
      let y11 := asI (outC y8 0 1)
      let y12 := asI (outC y8 0 2)
      let y13 := asI (outC y8 0 3)
      let y14 := asS (outC y8 0 4)
      let y15 := asL (outC y8 0 5)
      q1 n42 y1 y9 (⟨#[]⟩ : ByteArray) y10 y11 y12 y13 y14 y3 y4 y5 y6 y7 y15
     else
      let y16 := asI (outC y8 0 0)
      let y17 := asI (outC y8 0 1)
      let y18 := asI (outC y8 0 2)
      let y19 := asI (outC y8 0 3)
      let y20 := asS (outC y8 0 4)
      let y21 := asL (outC y8 0 5)
      la64o1 t56 t57 t58 n31 n32 n33 n34 s35 l36 l37 b38 b39 l40 n41 n45 n46 n47 n48 s49 q1 q2 m (w64 (n42 + (1 : Int))) (.d (.b y1)) (.d (.b y9)) y16 y17 y18 y19 y20 y21
    else
     q2 n42 y1 (keepV [128, 256, 16390] v44) n50 n51 n52 n53 s54 l55
def ta64 (t56 : Int → Int → Int → Int → ByteArray → List (List D) → Rs) (t57 : Int → Int → Int → Int → ByteArray → List (List D) → Rs) (t58 : Int → Int → Int → Int → ByteArray → List (List D) → Int → Int → Int → Int → ByteArray → Rs) (n1 : Int) (n2 : Int) (n3 : Int) (n4 : Int) (s5 : ByteArray) (l6 : List (List D)) (l7 : List (List D)) : Rs :=
  let y1 := t56 n1 n2 n3 n4 s5 l6
  chk (okR zr56 zo56 y1) <|
  let y2 := (!(asB (resC y1 0 0))) || (decide ((l7.length : Int) > (80 : Int)))
  if y2 then
   some ([.agg [.i .i64 (0 : Int), .i .i64 (0 : Int), .i .i64 (0 : Int), .i .i64 (0 : Int), .s (⟨#[]⟩ : ByteArray), .l ([] : List (List D))], .one (.b false)], [])
  else
   let y3 := t57 n1 n2 n3 n4 s5 l6
   chk (okR zr57 zo57 y3) <|
   la64o1 t56 t57 t58 n1 n2 n3 n4 s5 l6 l7 false y2 l7 (l7.length : Int) (0 : Int) (0 : Int) (0 : Int) (0 : Int) (⟨#[]⟩ : ByteArray)
    (fun (n105 : Int) (b106 : Bool) (b107 : Bool) (s108 : ByteArray) (n109 : Int) (n110 : Int) (n111 : Int) (n112 : Int) (s113 : ByteArray) (n114 : Int) (n115 : Int) (n116 : Int) (n117 : Int) (s118 : ByteArray) (l119 : List (List D)) =>
     some ([.agg [.i .i64 (0 : Int), .i .i64 (0 : Int), .i .i64 (0 : Int), .i .i64 (0 : Int), .s s108, .l ([] : List (List D))], .one (.b false)], []))
    (fun (n120 : Int) (b121 : Bool) (v122 : SV) (n123 : Int) (n124 : Int) (n125 : Int) (n126 : Int) (s127 : ByteArray) (l128 : List (List D)) =>
     some ([.agg [.i .i64 n123, .i .i64 n124, .i .i64 n125, .i .i64 n126, .s s127, .l l128], .one (.b true)], [])) KK (0 : Int) SV.undef SV.undef (asI (resC y3 0 0)) (asI (resC y3 0 1)) (asI (resC y3 0 2)) (asI (resC y3 0 3)) (asS (resC y3 0 4)) (asL (resC y3 0 5))
theorem te64 : ta64 tu56 tu57 tu58 = t64 := (by rw [tu56_eq, tu57_eq, tu58_eq] : ta64 tu56 tu57 tu58 = ta64 t56 t57 t58).trans (by kernel_rfl)
def tw64 (vs : List Vr) : Rs := ta64 tu56 tu57 tu58 (vI vs 0) (vI vs 1) (vI vs 2) (vI vs 3) (vS vs 4) (vL vs 5) (vL vs 6)
def tp64 (vs : List Vr) : Rs := tu64 (vI vs 0) (vI vs 1) (vI vs 2) (vI vs 3) (vS vs 4) (vL vs 5) (vL vs 6)
theorem tpw64 : tp64 = tw64 := funext fun vs => by unfold tp64 tw64; rw [tu64_eq, te64]
def th64 (xs : List DV) : Bool × List DV × List (List D) := gOf zr64 zo64 (argsT A64 tp64 xs)
def ta71 (t57 : Int → Int → Int → Int → ByteArray → List (List D) → Rs) (n1 : Int) (n2 : Int) (n3 : Int) (n4 : Int) (s5 : ByteArray) (l6 : List (List D)) (l7 : List (List D)) : Rs :=
  let y1 := t57 n1 n2 n3 n4 s5 l6
  chk (okR zr57 zo57 y1) <|
  chk ((flatR 5 l7) && decide (l7.length ≤ lim)) <|
  some ([.agg [.i .i64 (asI (resC y1 0 0)), .i .i64 (asI (resC y1 0 1)), .i .i64 (asI (resC y1 0 2)), .i .i64 (asI (resC y1 0 3)), .s (asS (resC y1 0 4)), .l (asL (resC y1 0 5)), .l l7]], [])
theorem te71 : ta71 tu57 = t71 := (by rw [tu57_eq] : ta71 tu57 = ta71 t57).trans (by kernel_rfl)
def tw71 (vs : List Vr) : Rs := ta71 tu57 (vI vs 0) (vI vs 1) (vI vs 2) (vI vs 3) (vS vs 4) (vL vs 5) (vL vs 6)
def tp71 (vs : List Vr) : Rs := tu71 (vI vs 0) (vI vs 1) (vI vs 2) (vI vs 3) (vS vs 4) (vL vs 5) (vL vs 6)
theorem tpw71 : tp71 = tw71 := funext fun vs => by unfold tp71 tw71; rw [tu71_eq, te71]
def th71 (xs : List DV) : Bool × List DV × List (List D) := gOf zr71 zo71 (argsT A71 tp71 xs)
def la42o1 (t58 : Int → Int → Int → Int → ByteArray → List (List D) → Int → Int → Int → Int → ByteArray → Rs) (t64 : Int → Int → Int → Int → ByteArray → List (List D) → List (List D) → Rs) (t71 : Int → Int → Int → Int → ByteArray → List (List D) → List (List D) → Rs) (n51 : Int) (n52 : Int) (n53 : Int) (n54 : Int) (s55 : ByteArray) (l56 : List (List D)) (l57 : List (List D)) (l58 : List (List D)) (n59 : Int) (n60 : Int) (b61 : Bool) (b63 : Bool) (l64 : List (List D)) (n65 : Int) (n69 : Int) (n70 : Int) (n71 : Int) (n72 : Int) (s73 : ByteArray) (l74 : List (List D)) (l75 : List (List D)) (n76 : Int) (n77 : Int) (n78 : Int) (n79 : Int) (s80 : ByteArray) (n86 : Int) (n87 : Int) (n88 : Int) (n89 : Int) (s90 : ByteArray) (l92 : List (List D)) (q1 : Int → Int → Bool → Bool → Int → Int → Int → Int → ByteArray → List (List D) → List (List D) → Rs) (q2 : Int → Int → Bool → SV → Int → Int → Int → Int → ByteArray → List (List D) → List (List D) → Rs) : Nat → Int → Int → SV → SV → Int → Int → Int → Int → ByteArray → List (List D) → List (List D) → Rs
  | 0, _, _, _, _, _, _, _, _, _, _, _ => none
  | m + 1, n62, n66, v67, v68, n81, n82, n83, n84, s85, l91, l93 =>
    let y1 := decide (n66 < n65)
    if y1 then
     let y2 := l64.getD n66.toNat []
     chk (decide (0 ≤ n66) && decide (n66 < l64.length) && isRow z38 y2) <|
     let y3 := (l93.length : Int) == (80 : Int)
     if !y3 then
      let y4 := asI (nthD y2 0)
      let y5 := asI (nthD y2 1)
      let y6 := asI (nthD y2 2)
      let y7 := asI (nthD y2 3)
      let y8 := asS (nthD y2 4)
      let y9 := t58 n81 n82 n83 n84 s85 l91 y4 y5 y6 y7 y8
      chk (okR zr58 zo58 y9) <|
      let y10 := y3 || (!(asB (resC y9 0 0)))
      if y10 then
       let y11 := asI (outC y9 0 0)
       let y12 := asI (outC y9 0 1)
       let y13 := asI (outC y9 0 2)
       let y14 := asI (outC y9 0 3)
       let y15 := asS (outC y9 0 4)
       let y16 := asL (outC y9 0 5)
       q1 n62 n66 y1 y10 y11 y12 y13 y14 y15 y16 l93
      else
       let y17 := ([[.i .i64 y4, .i .i64 y5, .i .i64 y6, .i .i64 y7, .s y8]] : List (List D))
       chk ((flatR 5 y17) && decide (l93.length + y17.length ≤ lim)) <|
       let y18 := asI (outC y9 0 0)
       let y19 := asI (outC y9 0 1)
       let y20 := asI (outC y9 0 2)
       let y21 := asI (outC y9 0 3)
       let y22 := asS (outC y9 0 4)
       let y23 := asL (outC y9 0 5)
       la42o1 t58 t64 t71 n51 n52 n53 n54 s55 l56 l57 l58 n59 n60 b61 b63 l64 n65 n69 n70 n71 n72 s73 l74 l75 n76 n77 n78 n79 s80 n86 n87 n88 n89 s90 l92 q1 q2 m (w64 (n62 + (1 : Int))) (w64 (n66 + (1 : Int))) (.d (.b y1)) (.d (.b y10)) y18 y19 y20 y21 y22 y23 (l93 ++ y17)
     else
      if !y3 then
       none
      else
       chk (y3) <|
       q1 n62 n66 y1 true n81 n82 n83 n84 s85 l91 l93
    else
     q2 n62 n66 y1 (keepV [192, 384, 512, 640, 32774, 40966, 40967] v68) n81 n82 n83 n84 s85 l91 l93
def ta42 (t58 : Int → Int → Int → Int → ByteArray → List (List D) → Int → Int → Int → Int → ByteArray → Rs) (t64 : Int → Int → Int → Int → ByteArray → List (List D) → List (List D) → Rs) (t71 : Int → Int → Int → Int → ByteArray → List (List D) → List (List D) → Rs) (n1 : Int) (n2 : Int) (n3 : Int) (n4 : Int) (s5 : ByteArray) (l6 : List (List D)) (l7 : List (List D)) (l8 : List (List D)) (n9 : Int) : Rs :=
  let y1 := t64 n1 n2 n3 n4 s5 l6 l7
  chk (okR zr64 zo64 y1) <|
  let y2 := asB (resC y1 1 0)
  let y3 := !y2
  if y3 then
   some ([.agg [.i .i64 (0 : Int), .i .i64 (0 : Int), .i .i64 (0 : Int), .i .i64 (0 : Int), .s (⟨#[]⟩ : ByteArray), .l ([] : List (List D)), .l ([] : List (List D))], .one (.i .i64 (0 : Int))], [])
  else
   let y4 := t71 n1 n2 n3 n4 s5 l6 l7
   chk (okR zr71 zo71 y4) <|
   let y5 := (l8.length : Int)
   let y6 := if y5 < n9 then y5 else n9
   let y7 := if y6 > (0 : Int) then y6 else (0 : Int)
   chk (decide (0 ≤ (0 : Int) ∧ (0 : Int) ≤ y7 ∧ y7 ≤ l8.length ∧ (l8.getD 0 z38).length = z38.length)) <|
   let y8 := (l8.take y7.toNat).drop (0 : Int).toNat
   let y9 := asI (resC y4 0 0)
   let y10 := asI (resC y4 0 1)
   let y11 := asI (resC y4 0 2)
   let y12 := asI (resC y4 0 3)
   let y13 := asS (resC y4 0 4)
   let y14 := asL (resC y4 0 5)
   la42o1 t58 t64 t71 n1 n2 n3 n4 s5 l6 l7 l8 n9 (0 : Int) y2 y3 y8 (y8.length : Int) n1 n2 n3 n4 s5 l6 l7 (0 : Int) (0 : Int) (0 : Int) (0 : Int) (⟨#[]⟩ : ByteArray) y9 y10 y11 y12 y13 y14
    (fun (n159 : Int) (n160 : Int) (b161 : Bool) (b162 : Bool) (n163 : Int) (n164 : Int) (n165 : Int) (n166 : Int) (s167 : ByteArray) (l168 : List (List D)) (l169 : List (List D)) =>
     some ([.agg [.i .i64 y9, .i .i64 y10, .i .i64 y11, .i .i64 y12, .s y13, .l y14, .l l169], .one (.i .i64 n159)], []))
    (fun (n170 : Int) (n171 : Int) (b172 : Bool) (v173 : SV) (n174 : Int) (n175 : Int) (n176 : Int) (n177 : Int) (s178 : ByteArray) (l179 : List (List D)) (l180 : List (List D)) =>
     some ([.agg [.i .i64 y9, .i .i64 y10, .i .i64 y11, .i .i64 y12, .s y13, .l y14, .l l180], .one (.i .i64 n170)], [])) KK (0 : Int) (0 : Int) SV.undef SV.undef (asI (resC y1 0 0)) (asI (resC y1 0 1)) (asI (resC y1 0 2)) (asI (resC y1 0 3)) (asS (resC y1 0 4)) (asL (resC y1 0 5)) (asL (resC y4 0 6))
theorem te42 : ta42 tu58 tu64 tu71 = t42 := (by rw [tu58_eq, tu64_eq, tu71_eq] : ta42 tu58 tu64 tu71 = ta42 t58 t64 t71).trans (by kernel_rfl)
def tw42 (vs : List Vr) : Rs := ta42 tu58 tu64 tu71 (vI vs 0) (vI vs 1) (vI vs 2) (vI vs 3) (vS vs 4) (vL vs 5) (vL vs 6) (vL vs 7) (vI vs 8)
def tp42 (vs : List Vr) : Rs := tu42 (vI vs 0) (vI vs 1) (vI vs 2) (vI vs 3) (vS vs 4) (vL vs 5) (vL vs 6) (vL vs 7) (vI vs 8)
theorem tpw42 : tp42 = tw42 := funext fun vs => by unfold tp42 tw42; rw [tu42_eq, te42]
def th42 (xs : List DV) : Bool × List DV × List (List D) := gOf zr42 zo42 (argsT A42 tp42 xs)
theorem te59 : t59 = t59 := rfl
def tw59 (vs : List Vr) : Rs := t59 (vI vs 0) (vI vs 1) (vS vs 2) (vI vs 3) (vI vs 4) (vS vs 5)
def tp59 (vs : List Vr) : Rs := tu59 (vI vs 0) (vI vs 1) (vS vs 2) (vI vs 3) (vI vs 4) (vS vs 5)
theorem tpw59 : tp59 = tw59 := funext fun vs => by unfold tp59 tw59; rw [tu59_eq, te59]
def th59 (xs : List DV) : Bool × List DV × List (List D) := gOf zr59 zo59 (argsT A59 tp59 xs)
theorem te89 : t89 = t89 := rfl
def tw89 (vs : List Vr) : Rs := t89 (vI vs 0) (vS vs 1) (vI vs 2) (vS vs 3)
def tp89 (vs : List Vr) : Rs := tu89 (vI vs 0) (vS vs 1) (vI vs 2) (vS vs 3)
theorem tpw89 : tp89 = tw89 := funext fun vs => by unfold tp89 tw89; rw [tu89_eq, te89]
def th89 (xs : List DV) : Bool × List DV × List (List D) := gOf zr89 zo89 (argsT A89 tp89 xs)
def la60o1 (t89 : Int → ByteArray → Int → ByteArray → Rs) (l8 : List (List D)) (l9 : List (List D)) (b10 : Bool) (b12 : Bool) (q1 : Int → Bool → Bool → Rs) (q2 : Int → Bool → SV → Rs) : Nat → Int → SV → SV → Rs
  | 0, _, _, _ => none
  | m + 1, n11, v13, v14 =>
    let y1 := decide (n11 < (l8.length : Int))
    if y1 then
     let y2 := l8.getD n11.toNat []
     chk (decide (0 ≤ n11) && decide (n11 < l8.length) && isRow z90 y2) <|
     let y3 := l9.getD n11.toNat []
     chk (decide (0 ≤ n11) && decide (n11 < l9.length) && isRow z90 y3) <|
     let y4 := t89 (asI (nthD y2 0)) (asS (nthD y2 1)) (asI (nthD y3 0)) (asS (nthD y3 1))
     chk (okR zr89 zo89 y4) <|
     let y5 := !(asB (resC y4 0 0))
     if y5 then
      q1 n11 y1 y5
     else
      la60o1 t89 l8 l9 b10 b12 q1 q2 m (w64 (n11 + (1 : Int))) (.d (.b y1)) (.d (.b y5))
    else
     q2 n11 y1 (keepV [] v14)
def ta60 (t89 : Int → ByteArray → Int → ByteArray → Rs) (l1 : List (List D)) (l2 : List (List D)) : Rs :=
  let y1 := (l1.length : Int) != (l2.length : Int)
  if y1 then
   some ([.one (.b false)], [])
  else
   la60o1 t89 l1 l2 false y1
    (fun (n28 : Int) (b29 : Bool) (b30 : Bool) =>
     some ([.one (.b false)], []))
    (fun (n31 : Int) (b32 : Bool) (v33 : SV) =>
     some ([.one (.b true)], [])) KK (0 : Int) SV.undef SV.undef
theorem te60 : ta60 tu89 = t60 := (by rw [tu89_eq] : ta60 tu89 = ta60 t89).trans (by kernel_rfl)
def tw60 (vs : List Vr) : Rs := ta60 tu89 (vL vs 0) (vL vs 1)
def tp60 (vs : List Vr) : Rs := tu60 (vL vs 0) (vL vs 1)
theorem tpw60 : tp60 = tw60 := funext fun vs => by unfold tp60 tw60; rw [tu60_eq, te60]
def th60 (xs : List DV) : Bool × List DV × List (List D) := gOf zr60 zo60 (argsT A60 tp60 xs)
def ta18 (t59 : Int → Int → ByteArray → Int → Int → ByteArray → Rs) (t60 : List (List D) → List (List D) → Rs) (n1 : Int) (n2 : Int) (n3 : Int) (n4 : Int) (s5 : ByteArray) (l6 : List (List D)) (n7 : Int) (n8 : Int) (n9 : Int) (n10 : Int) (s11 : ByteArray) (l12 : List (List D)) : Rs :=
  if n1 != n7 then
   some ([.one (.b false)], [])
  else
   if n2 != n8 then
    some ([.one (.b false)], [])
   else
    let y1 := t59 n3 n4 s5 n9 n10 s11
    chk (okR zr59 zo59 y1) <|
    if !(asB (resC y1 0 0)) then
     some ([.one (.b false)], [])
    else
     chk (okR zr60 zo60 (t60 l6 l12)) <|
     if !(asB (resC (t60 l6 l12) 0 0)) then
      some ([.one (.b false)], [])
     else
      some ([.one (.b true)], [])
theorem te18 : ta18 tu59 tu60 = t18 := (by rw [tu59_eq, tu60_eq] : ta18 tu59 tu60 = ta18 t59 t60).trans (by kernel_rfl)
def tw18 (vs : List Vr) : Rs := ta18 tu59 tu60 (vI vs 0) (vI vs 1) (vI vs 2) (vI vs 3) (vS vs 4) (vL vs 5) (vI vs 6) (vI vs 7) (vI vs 8) (vI vs 9) (vS vs 10) (vL vs 11)
def tp18 (vs : List Vr) : Rs := tu18 (vI vs 0) (vI vs 1) (vI vs 2) (vI vs 3) (vS vs 4) (vL vs 5) (vI vs 6) (vI vs 7) (vI vs 8) (vI vs 9) (vS vs 10) (vL vs 11)
theorem tpw18 : tp18 = tw18 := funext fun vs => by unfold tp18 tw18; rw [tu18_eq, te18]
def th18 (xs : List DV) : Bool × List DV × List (List D) := gOf zr18 zo18 (argsT A18 tp18 xs)
theorem te67 : t67 = t67 := rfl
def tw67 (vs : List Vr) : Rs := t67 (vI vs 0) (vI vs 1) (vI vs 2) (vI vs 3) (vS vs 4) (vI vs 5) (vI vs 6) (vI vs 7) (vI vs 8) (vS vs 9)
def tp67 (vs : List Vr) : Rs := tu67 (vI vs 0) (vI vs 1) (vI vs 2) (vI vs 3) (vS vs 4) (vI vs 5) (vI vs 6) (vI vs 7) (vI vs 8) (vS vs 9)
theorem tpw67 : tp67 = tw67 := funext fun vs => by unfold tp67 tw67; rw [tu67_eq, te67]
def th67 (xs : List DV) : Bool × List DV × List (List D) := gOf zr67 zo67 (argsT A67 tp67 xs)
def la28o1 (t67 : Int → Int → Int → Int → ByteArray → Int → Int → Int → Int → ByteArray → Rs) (l8 : List (List D)) (l9 : List (List D)) (b10 : Bool) (b12 : Bool) (q1 : Int → Bool → Bool → Rs) (q2 : Int → Bool → SV → Rs) : Nat → Int → SV → SV → Rs
  | 0, _, _, _ => none
  | m + 1, n11, v13, v14 =>
    let y1 := decide (n11 < (l8.length : Int))
    if y1 then
     let y2 := l8.getD n11.toNat []
     chk (decide (0 ≤ n11) && decide (n11 < l8.length) && isRow z38 y2) <|
     let y3 := l9.getD n11.toNat []
     chk (decide (0 ≤ n11) && decide (n11 < l9.length) && isRow z38 y3) <|
     let y4 := t67 (asI (nthD y2 0)) (asI (nthD y2 1)) (asI (nthD y2 2)) (asI (nthD y2 3)) (asS (nthD y2 4)) (asI (nthD y3 0)) (asI (nthD y3 1)) (asI (nthD y3 2)) (asI (nthD y3 3)) (asS (nthD y3 4))
     chk (okR zr67 zo67 y4) <|
     let y5 := !(asB (resC y4 0 0))
     if y5 then
      q1 n11 y1 y5
     else
      la28o1 t67 l8 l9 b10 b12 q1 q2 m (w64 (n11 + (1 : Int))) (.d (.b y1)) (.d (.b y5))
    else
     q2 n11 y1 (keepV [] v14)
def ta28 (t67 : Int → Int → Int → Int → ByteArray → Int → Int → Int → Int → ByteArray → Rs) (l1 : List (List D)) (l2 : List (List D)) : Rs :=
  let y1 := (l1.length : Int) != (l2.length : Int)
  if y1 then
   some ([.one (.b false)], [])
  else
   la28o1 t67 l1 l2 false y1
    (fun (n28 : Int) (b29 : Bool) (b30 : Bool) =>
     some ([.one (.b false)], []))
    (fun (n31 : Int) (b32 : Bool) (v33 : SV) =>
     some ([.one (.b true)], [])) KK (0 : Int) SV.undef SV.undef
theorem te28 : ta28 tu67 = t28 := (by rw [tu67_eq] : ta28 tu67 = ta28 t67).trans (by kernel_rfl)
def tw28 (vs : List Vr) : Rs := ta28 tu67 (vL vs 0) (vL vs 1)
def tp28 (vs : List Vr) : Rs := tu28 (vL vs 0) (vL vs 1)
theorem tpw28 : tp28 = tw28 := funext fun vs => by unfold tp28 tw28; rw [tu28_eq, te28]
def th28 (xs : List DV) : Bool × List DV × List (List D) := gOf zr28 zo28 (argsT A28 tp28 xs)
def ta25 (t18 : Int → Int → Int → Int → ByteArray → List (List D) → Int → Int → Int → Int → ByteArray → List (List D) → Rs) (t28 : List (List D) → List (List D) → Rs) (n1 : Int) (n2 : Int) (n3 : Int) (n4 : Int) (s5 : ByteArray) (l6 : List (List D)) (l7 : List (List D)) (n8 : Int) (n9 : Int) (n10 : Int) (n11 : Int) (s12 : ByteArray) (l13 : List (List D)) (l14 : List (List D)) : Rs :=
  let y1 := t18 n1 n2 n3 n4 s5 l6 n8 n9 n10 n11 s12 l13
  chk (okR zr18 zo18 y1) <|
  if !(asB (resC y1 0 0)) then
   some ([.one (.b false)], [])
  else
   chk (okR zr28 zo28 (t28 l7 l14)) <|
   if !(asB (resC (t28 l7 l14) 0 0)) then
    some ([.one (.b false)], [])
   else
    some ([.one (.b true)], [])
theorem te25 : ta25 tu18 tu28 = t25 := (by rw [tu18_eq, tu28_eq] : ta25 tu18 tu28 = ta25 t18 t28).trans (by kernel_rfl)
def tw25 (vs : List Vr) : Rs := ta25 tu18 tu28 (vI vs 0) (vI vs 1) (vI vs 2) (vI vs 3) (vS vs 4) (vL vs 5) (vL vs 6) (vI vs 7) (vI vs 8) (vI vs 9) (vI vs 10) (vS vs 11) (vL vs 12) (vL vs 13)
def tp25 (vs : List Vr) : Rs := tu25 (vI vs 0) (vI vs 1) (vI vs 2) (vI vs 3) (vS vs 4) (vL vs 5) (vL vs 6) (vI vs 7) (vI vs 8) (vI vs 9) (vI vs 10) (vS vs 11) (vL vs 12) (vL vs 13)
theorem tpw25 : tp25 = tw25 := funext fun vs => by unfold tp25 tw25; rw [tu25_eq, te25]
def th25 (xs : List DV) : Bool × List DV × List (List D) := gOf zr25 zo25 (argsT A25 tp25 xs)
theorem te68 : t68 = t68 := rfl
def tw68 (vs : List Vr) : Rs := t68 (vI vs 0)
def tp68 (vs : List Vr) : Rs := tu68 (vI vs 0)
theorem tpw68 : tp68 = tw68 := funext fun vs => by unfold tp68 tw68; rw [tu68_eq, te68]
def th68 (xs : List DV) : Bool × List DV × List (List D) := gOf zr68 zo68 (argsT A68 tp68 xs)
def la61o0 (t68 : Int → Rs) (n8 : Int) (q1 : Int → Int → Bool → List (List D) → Rs) : Nat → Int → Int → SV → List (List D) → Rs
  | 0, _, _, _, _ => none
  | m + 1, n7, n9, v10, l11 =>
    let y1 := decide (n9 < (l11.length : Int))
    if y1 then
     chk (decide (0 ≤ n9) && decide (n9 < l11.length)) <|
     chk (decide (1 ≤ 2 ∧ (n9.toNat) < l11.length)) <|
     let y2 := w64 (n7 + (1 : Int))
     let y3 := t68 y2
     chk (okR zr68 zo68 y3) <|
     let y4 := stR l11 (n9.toNat) 0 [.i .i64 n7]
     chk (decide (0 ≤ n9) && decide (n9 < y4.length)) <|
     chk (decide (2 ≤ 2 ∧ (n9.toNat) < y4.length)) <|
     la61o0 t68 n8 q1 m (w64 (y2 + (1 : Int))) (w64 (n9 + (1 : Int))) (.d (.b y1)) (stR y4 (n9.toNat) 1 [.s (asS (resC y3 0 0))])
    else
     q1 n7 n9 y1 l11
def ta61 (t68 : Int → Rs) (l1 : List (List D)) (n2 : Int) : Rs :=
  la61o0 t68 (0 : Int)
   (fun (n21 : Int) (n22 : Int) (b23 : Bool) (l24 : List (List D)) =>
    some ([.one (.i .i64 n21)], [[.l l24]])) KK n2 (0 : Int) SV.undef l1
theorem te61 : ta61 tu68 = t61 := (by rw [tu68_eq] : ta61 tu68 = ta61 t68).trans (by kernel_rfl)
def tw61 (vs : List Vr) : Rs := ta61 tu68 (vL vs 0) (vI vs 1)
def tp61 (vs : List Vr) : Rs := tu61 (vL vs 0) (vI vs 1)
theorem tpw61 : tp61 = tw61 := funext fun vs => by unfold tp61 tw61; rw [tu61_eq, te61]
def th61 (xs : List DV) : Bool × List DV × List (List D) := gOf zr61 zo61 (argsT A61 tp61 xs)
def ta19 (t61 : List (List D) → Int → Rs) (n1 : Int) (n2 : Int) (n3 : Int) (n4 : Int) (s5 : ByteArray) (l6 : List (List D)) (n7 : Int) : Rs :=
  chk (okR zr61 zo61 (t61 l6 n7)) <|
  some ([.one (.i .i64 (asI (resC (t61 l6 n7) 0 0)))], [[.i .i64 n1, .i .i64 n2, .i .i64 n3, .i .i64 n4, .s s5, .l (asL (outC (t61 l6 n7) 0 0))]])
theorem te19 : ta19 tu61 = t19 := (by rw [tu61_eq] : ta19 tu61 = ta19 t61).trans (by kernel_rfl)
def tw19 (vs : List Vr) : Rs := ta19 tu61 (vI vs 0) (vI vs 1) (vI vs 2) (vI vs 3) (vS vs 4) (vL vs 5) (vI vs 6)
def tp19 (vs : List Vr) : Rs := tu19 (vI vs 0) (vI vs 1) (vI vs 2) (vI vs 3) (vS vs 4) (vL vs 5) (vI vs 6)
theorem tpw19 : tp19 = tw19 := funext fun vs => by unfold tp19 tw19; rw [tu19_eq, te19]
def th19 (xs : List DV) : Bool × List DV × List (List D) := gOf zr19 zo19 (argsT A19 tp19 xs)
def la29o0 (t68 : Int → Rs) (n8 : Int) (q1 : Int → Int → Bool → List (List D) → Rs) : Nat → Int → Int → SV → List (List D) → Rs
  | 0, _, _, _, _ => none
  | m + 1, n7, n9, v10, l11 =>
    let y1 := decide (n9 < (l11.length : Int))
    if y1 then
     chk (decide (0 ≤ n9) && decide (n9 < l11.length)) <|
     chk (decide (1 ≤ 5 ∧ (n9.toNat) < l11.length)) <|
     let y2 := stR l11 (n9.toNat) 0 [.i .i64 n7]
     chk (decide (0 ≤ n9) && decide (n9 < y2.length)) <|
     chk (decide (2 ≤ 5 ∧ (n9.toNat) < y2.length)) <|
     let y3 := w64 (n7 + (1 : Int))
     let y4 := stR y2 (n9.toNat) 1 [.i .i64 y3]
     chk (decide (0 ≤ n9) && decide (n9 < y4.length)) <|
     chk (decide (3 ≤ 5 ∧ (n9.toNat) < y4.length)) <|
     let y5 := w64 (y3 + (1 : Int))
     let y6 := stR y4 (n9.toNat) 2 [.i .i64 y5]
     chk (decide (0 ≤ n9) && decide (n9 < y6.length)) <|
     chk (decide (4 ≤ 5 ∧ (n9.toNat) < y6.length)) <|
     let y7 := w64 (y5 + (1 : Int))
     let y8 := w64 (y7 + (1 : Int))
     let y9 := t68 y8
     chk (okR zr68 zo68 y9) <|
     let y10 := stR y6 (n9.toNat) 3 [.i .i64 y7]
     chk (decide (0 ≤ n9) && decide (n9 < y10.length)) <|
     chk (decide (5 ≤ 5 ∧ (n9.toNat) < y10.length)) <|
     la29o0 t68 n8 q1 m (w64 (y8 + (1 : Int))) (w64 (n9 + (1 : Int))) (.d (.b y1)) (stR y10 (n9.toNat) 4 [.s (asS (resC y9 0 0))])
    else
     q1 n7 n9 y1 l11
def ta29 (t68 : Int → Rs) (l1 : List (List D)) (n2 : Int) : Rs :=
  la29o0 t68 (0 : Int)
   (fun (n21 : Int) (n22 : Int) (b23 : Bool) (l24 : List (List D)) =>
    some ([.one (.i .i64 n21)], [[.l l24]])) KK n2 (0 : Int) SV.undef l1
theorem te29 : ta29 tu68 = t29 := (by rw [tu68_eq] : ta29 tu68 = ta29 t68).trans (by kernel_rfl)
def tw29 (vs : List Vr) : Rs := ta29 tu68 (vL vs 0) (vI vs 1)
def tp29 (vs : List Vr) : Rs := tu29 (vL vs 0) (vI vs 1)
theorem tpw29 : tp29 = tw29 := funext fun vs => by unfold tp29 tw29; rw [tu29_eq, te29]
def th29 (xs : List DV) : Bool × List DV × List (List D) := gOf zr29 zo29 (argsT A29 tp29 xs)
def ta33 (t19 : Int → Int → Int → Int → ByteArray → List (List D) → Int → Rs) (t29 : List (List D) → Int → Rs) (n1 : Int) (n2 : Int) (n3 : Int) (n4 : Int) (s5 : ByteArray) (l6 : List (List D)) (l7 : List (List D)) (n8 : Int) : Rs :=
  let y1 := t19 n1 n2 n3 n4 s5 l6 n8
  chk (okR zr19 zo19 y1) <|
  let y2 := t29 l7 (asI (resC y1 0 0))
  chk (okR zr29 zo29 y2) <|
  some ([.one (.i .i64 (asI (resC y2 0 0)))], [[.i .i64 n1, .i .i64 n2, .i .i64 n3, .i .i64 n4, .s s5, .l (asL (outC y1 0 5)), .l (asL (outC y2 0 0))]])
theorem te33 : ta33 tu19 tu29 = t33 := (by rw [tu19_eq, tu29_eq] : ta33 tu19 tu29 = ta33 t19 t29).trans (by kernel_rfl)
def tw33 (vs : List Vr) : Rs := ta33 tu19 tu29 (vI vs 0) (vI vs 1) (vI vs 2) (vI vs 3) (vS vs 4) (vL vs 5) (vL vs 6) (vI vs 7)
def tp33 (vs : List Vr) : Rs := tu33 (vI vs 0) (vI vs 1) (vI vs 2) (vI vs 3) (vS vs 4) (vL vs 5) (vL vs 6) (vI vs 7)
theorem tpw33 : tp33 = tw33 := funext fun vs => by unfold tp33 tw33; rw [tu33_eq, te33]
def th33 (xs : List DV) : Bool × List DV × List (List D) := gOf zr33 zo33 (argsT A33 tp33 xs)
def la62o0 (t68 : Int → Rs) (l7 : List (List D)) (n9 : Int) (q1 : Int → Int → Bool → Bool → SV → Rs) (q2 : Int → Int → Bool → Bool → Bool → Rs) (q3 : Int → Int → Bool → SV → SV → Rs) : Nat → Int → Int → SV → SV → SV → Rs
  | 0, _, _, _, _, _ => none
  | m + 1, n8, n10, v11, v12, v13 =>
    let y1 := decide (n10 < (l7.length : Int))
    if y1 then
     let y2 := l7.getD n10.toNat []
     chk (decide (0 ≤ n10) && decide (n10 < l7.length) && isRow z90 y2) <|
     let y3 := (asI (nthD y2 0)) != n8
     if y3 then
      q1 n8 n10 y1 y3 v13
     else
      let y4 := l7.getD n10.toNat []
      chk (decide (0 ≤ n10) && decide (n10 < l7.length) && isRow z90 y4) <|
      let y5 := w64 (n8 + (1 : Int))
      let y6 := t68 y5
      chk (okR zr68 zo68 y6) <|
      let y7 := !((asS (nthD y4 1)).toList == (asS (resC y6 0 0)).toList)
      if y7 then
       q2 y5 n10 y1 y3 y7
      else
       la62o0 t68 l7 n9 q1 q2 q3 m (w64 (y5 + (1 : Int))) (w64 (n10 + (1 : Int))) (.d (.b y1)) (.d (.b y3)) (.d (.b y7))
    else
     q3 n8 n10 y1 (keepV [] v12) (keepV [] v13)
def ta62 (t68 : Int → Rs) (l1 : List (List D)) (n2 : Int) : Rs :=
  la62o0 t68 l1 (0 : Int)
   (fun (n36 : Int) (n37 : Int) (b38 : Bool) (b39 : Bool) (v40 : SV) =>
    some ([.one (.i .i64 (-1 : Int))], []))
   (fun (n41 : Int) (n42 : Int) (b43 : Bool) (b44 : Bool) (b45 : Bool) =>
    some ([.one (.i .i64 (-1 : Int))], []))
   (fun (n46 : Int) (n47 : Int) (b48 : Bool) (v49 : SV) (v50 : SV) =>
    some ([.one (.i .i64 n46)], [])) KK n2 (0 : Int) SV.undef SV.undef SV.undef
theorem te62 : ta62 tu68 = t62 := (by rw [tu68_eq] : ta62 tu68 = ta62 t68).trans (by kernel_rfl)
def tw62 (vs : List Vr) : Rs := ta62 tu68 (vL vs 0) (vI vs 1)
def tp62 (vs : List Vr) : Rs := tu62 (vL vs 0) (vI vs 1)
theorem tpw62 : tp62 = tw62 := funext fun vs => by unfold tp62 tw62; rw [tu62_eq, te62]
def th62 (xs : List DV) : Bool × List DV × List (List D) := gOf zr62 zo62 (argsT A62 tp62 xs)
def ta20 (t62 : List (List D) → Int → Rs) (n1 : Int) (n2 : Int) (n3 : Int) (n4 : Int) (s5 : ByteArray) (l6 : List (List D)) (n7 : Int) : Rs :=
  chk (okR zr62 zo62 (t62 l6 n7)) <|
  let y1 := asI (resC (t62 l6 n7) 0 0)
  if decide (y1 < (0 : Int)) then
   some ([.one (.i .i64 (-1 : Int))], [])
  else
   some ([.one (.i .i64 y1)], [])
theorem te20 : ta20 tu62 = t20 := (by rw [tu62_eq] : ta20 tu62 = ta20 t62).trans (by kernel_rfl)
def tw20 (vs : List Vr) : Rs := ta20 tu62 (vI vs 0) (vI vs 1) (vI vs 2) (vI vs 3) (vS vs 4) (vL vs 5) (vI vs 6)
def tp20 (vs : List Vr) : Rs := tu20 (vI vs 0) (vI vs 1) (vI vs 2) (vI vs 3) (vS vs 4) (vL vs 5) (vI vs 6)
theorem tpw20 : tp20 = tw20 := funext fun vs => by unfold tp20 tw20; rw [tu20_eq, te20]
def th20 (xs : List DV) : Bool × List DV × List (List D) := gOf zr20 zo20 (argsT A20 tp20 xs)
def la30o0 (t68 : Int → Rs) (l7 : List (List D)) (n9 : Int) (q1 : Int → Int → Bool → Bool → SV → SV → SV → SV → Rs) (q2 : Int → Int → Bool → Bool → Bool → SV → SV → SV → Rs) (q3 : Int → Int → Bool → Bool → Bool → Bool → SV → SV → Rs) (q4 : Int → Int → Bool → Bool → Bool → Bool → Bool → SV → Rs) (q5 : Int → Int → Bool → Bool → Bool → Bool → Bool → Bool → Rs) (q6 : Int → Int → Bool → SV → SV → SV → SV → SV → Rs) : Nat → Int → Int → SV → SV → SV → SV → SV → SV → Rs
  | 0, _, _, _, _, _, _, _, _ => none
  | m + 1, n8, n10, v11, v12, v13, v14, v15, v16 =>
    let y1 := decide (n10 < (l7.length : Int))
    if y1 then
     let y2 := l7.getD n10.toNat []
     chk (decide (0 ≤ n10) && decide (n10 < l7.length) && isRow z38 y2) <|
     let y3 := (asI (nthD y2 0)) != n8
     if y3 then
      q1 n8 n10 y1 y3 v13 v14 v15 v16
     else
      let y4 := l7.getD n10.toNat []
      chk (decide (0 ≤ n10) && decide (n10 < l7.length) && isRow z38 y4) <|
      let y5 := w64 (n8 + (1 : Int))
      let y6 := (asI (nthD y4 1)) != y5
      if y6 then
       q2 y5 n10 y1 y3 y6 v14 v15 v16
      else
       let y7 := l7.getD n10.toNat []
       chk (decide (0 ≤ n10) && decide (n10 < l7.length) && isRow z38 y7) <|
       let y8 := w64 (y5 + (1 : Int))
       let y9 := (asI (nthD y7 2)) != y8
       if y9 then
        q3 y8 n10 y1 y3 y6 y9 v15 v16
       else
        let y10 := l7.getD n10.toNat []
        chk (decide (0 ≤ n10) && decide (n10 < l7.length) && isRow z38 y10) <|
        let y11 := w64 (y8 + (1 : Int))
        let y12 := (asI (nthD y10 3)) != y11
        if y12 then
         q4 y11 n10 y1 y3 y6 y9 y12 v16
        else
         let y13 := l7.getD n10.toNat []
         chk (decide (0 ≤ n10) && decide (n10 < l7.length) && isRow z38 y13) <|
         let y14 := w64 (y11 + (1 : Int))
         let y15 := t68 y14
         chk (okR zr68 zo68 y15) <|
         let y16 := !((asS (nthD y13 4)).toList == (asS (resC y15 0 0)).toList)
         if y16 then
          q5 y14 n10 y1 y3 y6 y9 y12 y16
         else
          la30o0 t68 l7 n9 q1 q2 q3 q4 q5 q6 m (w64 (y14 + (1 : Int))) (w64 (n10 + (1 : Int))) (.d (.b y1)) (.d (.b y3)) (.d (.b y6)) (.d (.b y9)) (.d (.b y12)) (.d (.b y16))
    else
     q6 n8 n10 y1 (keepV [] v12) (keepV [] v13) (keepV [] v14) (keepV [] v15) (keepV [] v16)
def ta30 (t68 : Int → Rs) (l1 : List (List D)) (n2 : Int) : Rs :=
  la30o0 t68 l1 (0 : Int)
   (fun (n75 : Int) (n76 : Int) (b77 : Bool) (b78 : Bool) (v79 : SV) (v80 : SV) (v81 : SV) (v82 : SV) =>
    some ([.one (.i .i64 (-1 : Int))], []))
   (fun (n83 : Int) (n84 : Int) (b85 : Bool) (b86 : Bool) (b87 : Bool) (v88 : SV) (v89 : SV) (v90 : SV) =>
    some ([.one (.i .i64 (-1 : Int))], []))
   (fun (n91 : Int) (n92 : Int) (b93 : Bool) (b94 : Bool) (b95 : Bool) (b96 : Bool) (v97 : SV) (v98 : SV) =>
    some ([.one (.i .i64 (-1 : Int))], []))
   (fun (n99 : Int) (n100 : Int) (b101 : Bool) (b102 : Bool) (b103 : Bool) (b104 : Bool) (b105 : Bool) (v106 : SV) =>
    some ([.one (.i .i64 (-1 : Int))], []))
   (fun (n107 : Int) (n108 : Int) (b109 : Bool) (b110 : Bool) (b111 : Bool) (b112 : Bool) (b113 : Bool) (b114 : Bool) =>
    some ([.one (.i .i64 (-1 : Int))], []))
   (fun (n115 : Int) (n116 : Int) (b117 : Bool) (v118 : SV) (v119 : SV) (v120 : SV) (v121 : SV) (v122 : SV) =>
    some ([.one (.i .i64 n115)], [])) KK n2 (0 : Int) SV.undef SV.undef SV.undef SV.undef SV.undef SV.undef
theorem te30 : ta30 tu68 = t30 := (by rw [tu68_eq] : ta30 tu68 = ta30 t68).trans (by kernel_rfl)
def tw30 (vs : List Vr) : Rs := ta30 tu68 (vL vs 0) (vI vs 1)
def tp30 (vs : List Vr) : Rs := tu30 (vL vs 0) (vI vs 1)
theorem tpw30 : tp30 = tw30 := funext fun vs => by unfold tp30 tw30; rw [tu30_eq, te30]
def th30 (xs : List DV) : Bool × List DV × List (List D) := gOf zr30 zo30 (argsT A30 tp30 xs)
def ta36 (t20 : Int → Int → Int → Int → ByteArray → List (List D) → Int → Rs) (t30 : List (List D) → Int → Rs) (n1 : Int) (n2 : Int) (n3 : Int) (n4 : Int) (s5 : ByteArray) (l6 : List (List D)) (l7 : List (List D)) (n8 : Int) : Rs :=
  let y1 := t20 n1 n2 n3 n4 s5 l6 n8
  chk (okR zr20 zo20 y1) <|
  let y2 := asI (resC y1 0 0)
  if decide (y2 < (0 : Int)) then
   some ([.one (.i .i64 (-1 : Int))], [])
  else
   let y3 := t30 l7 y2
   chk (okR zr30 zo30 y3) <|
   let y4 := asI (resC y3 0 0)
   if decide (y4 < (0 : Int)) then
    some ([.one (.i .i64 (-1 : Int))], [])
   else
    some ([.one (.i .i64 y4)], [])
theorem te36 : ta36 tu20 tu30 = t36 := (by rw [tu20_eq, tu30_eq] : ta36 tu20 tu30 = ta36 t20 t30).trans (by kernel_rfl)
def tw36 (vs : List Vr) : Rs := ta36 tu20 tu30 (vI vs 0) (vI vs 1) (vI vs 2) (vI vs 3) (vS vs 4) (vL vs 5) (vL vs 6) (vI vs 7)
def tp36 (vs : List Vr) : Rs := tu36 (vI vs 0) (vI vs 1) (vI vs 2) (vI vs 3) (vS vs 4) (vL vs 5) (vL vs 6) (vI vs 7)
theorem tpw36 : tp36 = tw36 := funext fun vs => by unfold tp36 tw36; rw [tu36_eq, te36]
def th36 (xs : List DV) : Bool × List DV × List (List D) := gOf zr36 zo36 (argsT A36 tp36 xs)
def ta9 (t21 : Int → Int → Int → Int → ByteArray → List (List D) → List (List D) → Int → Rs) (t23 : Int → Int → Int → Int → ByteArray → List (List D) → List (List D) → Rs) (t25 : Int → Int → Int → Int → ByteArray → List (List D) → List (List D) → Int → Int → Int → Int → ByteArray → List (List D) → List (List D) → Rs) (t28 : List (List D) → List (List D) → Rs) (t29 : List (List D) → Int → Rs) (t33 : Int → Int → Int → Int → ByteArray → List (List D) → List (List D) → Int → Rs) (t36 : Int → Int → Int → Int → ByteArray → List (List D) → List (List D) → Int → Rs) (t39 : List (List D) → Int → Rs) (t40 : Int → Int → Int → Int → ByteArray → List (List D) → List (List D) → List (List D) → Int → Rs) (t41 : List (List D) → Rs) (t42 : Int → Int → Int → Int → ByteArray → List (List D) → List (List D) → List (List D) → Int → Rs) (n1 : Int) (n2 : Int) (n3 : Int) (n4 : Int) (s5 : ByteArray) (l6 : List (List D)) (l7 : List (List D)) (l8 : List (List D)) (n9 : Int) : Rs :=
  let y1 := t21 n1 n2 n3 n4 s5 l6 l7 (1048576 : Int)
  chk (okR zr21 zo21 y1) <|
  let y2 := asI (resC y1 0 0)
  if decide (y2 < (0 : Int)) then
   some ([.one (.b true)], [])
  else
   let y3 := t39 l8 y2
   chk (okR zr39 zo39 y3) <|
   if decide ((asI (resC y3 0 0)) < (0 : Int)) then
    some ([.one (.b true)], [])
   else
    let y4 := t23 n1 n2 n3 n4 s5 l6 l7
    chk (okR zr23 zo23 y4) <|
    chk (okR zr41 zo41 (t41 l8)) <|
    let y5 := t40 (asI (resC y4 0 0)) (asI (resC y4 0 1)) (asI (resC y4 0 2)) (asI (resC y4 0 3)) (asS (resC y4 0 4)) (asL (resC y4 0 5)) (asL (resC y4 0 6)) (asL (resC (t41 l8) 0 0)) n9
    chk (okR zr40 zo40 y5) <|
    let y6 := t23 n1 n2 n3 n4 s5 l6 l7
    chk (okR zr23 zo23 y6) <|
    chk (okR zr41 zo41 (t41 l8)) <|
    let y7 := asI (resC y6 0 0)
    let y8 := asI (resC y6 0 1)
    let y9 := asI (resC y6 0 2)
    let y10 := asI (resC y6 0 3)
    let y11 := asS (resC y6 0 4)
    let y12 := asL (resC y6 0 5)
    let y13 := asL (resC y6 0 6)
    let y14 := asL (resC (t41 l8) 0 0)
    let y15 := t42 y7 y8 y9 y10 y11 y12 y13 y14 n9
    chk (okR zr42 zo42 y15) <|
    let y16 := asI (resC y15 0 0)
    let y17 := asI (resC y15 0 1)
    let y18 := asI (resC y15 0 2)
    let y19 := asI (resC y15 0 3)
    let y20 := asS (resC y15 0 4)
    let y21 := asL (resC y15 0 5)
    let y22 := asL (resC y15 0 6)
    let y23 := asI (resC y5 0 0)
    let y24 := asI (resC y5 0 1)
    let y25 := asI (resC y5 0 2)
    let y26 := asI (resC y5 0 3)
    let y27 := asS (resC y5 0 4)
    let y28 := asL (resC y5 0 5)
    let y29 := asL (resC y5 0 6)
    let y30 := t25 y16 y17 y18 y19 y20 y21 y22 y23 y24 y25 y26 y27 y28 y29
    chk (okR zr25 zo25 y30) <|
    let y31 := asI (resC y15 1 0)
    let y32 := asI (resC y5 1 0)
    if (!(asB (resC y30 0 0))) || (y31 != y32) then
     some ([.one (.b false)], [])
    else
     let y33 := t23 n1 n2 n3 n4 s5 l6 l7
     chk (okR zr23 zo23 y33) <|
     let y34 := t25 y7 y8 y9 y10 y11 y12 y13 (asI (resC y33 0 0)) (asI (resC y33 0 1)) (asI (resC y33 0 2)) (asI (resC y33 0 3)) (asS (resC y33 0 4)) (asL (resC y33 0 5)) (asL (resC y33 0 6))
     chk (okR zr25 zo25 y34) <|
     if !(asB (resC y34 0 0)) then
      some ([.one (.b false)], [])
     else
      chk (okR zr41 zo41 (t41 l8)) <|
      let y35 := t28 y14 (asL (resC (t41 l8) 0 0))
      chk (okR zr28 zo28 y35) <|
      if !(asB (resC y35 0 0)) then
       some ([.one (.b false)], [])
      else
       let y36 := t33 y7 y8 y9 y10 y11 y12 y13 (1 : Int)
       chk (okR zr33 zo33 y36) <|
       let y37 := t29 y14 (asI (resC y36 0 0))
       chk (okR zr29 zo29 y37) <|
       let y38 := t25 y16 y17 y18 y19 y20 y21 y22 y23 y24 y25 y26 y27 y28 y29
       let y39 := decide ((asI (resC y37 0 0)) < (0 : Int))
       chk ((okR zr25 zo25 y38) || !(!y39)) <|
       if (y39 || (!(asB (resC y38 0 0)))) || (y31 != y32) then
        some ([.one (.b false)], [])
       else
        let y40 := t33 y16 y17 y18 y19 y20 y21 y22 (1 : Int)
        chk (okR zr33 zo33 y40) <|
        let y41 := asL (outC y40 0 5)
        let y42 := asL (outC y40 0 6)
        let y43 := t36 y16 y17 y18 y19 y20 y41 y42 (1 : Int)
        chk (okR zr36 zo36 y43) <|
        let y44 := asI (resC y43 0 0)
        if decide (y44 < (0 : Int)) then
         some ([.one (.b false)], [])
        else
         let y45 := asI (resC y40 0 0)
         if y44 != y45 then
          some ([.one (.b false)], [])
         else
          let y46 := t23 n1 n2 n3 n4 s5 l6 l7
          chk (okR zr23 zo23 y46) <|
          chk (okR zr41 zo41 (t41 l8)) <|
          let y47 := t42 (asI (resC y46 0 0)) (asI (resC y46 0 1)) (asI (resC y46 0 2)) (asI (resC y46 0 3)) (asS (resC y46 0 4)) (asL (resC y46 0 5)) (asL (resC y46 0 6)) (asL (resC (t41 l8) 0 0)) n9
          chk (okR zr42 zo42 y47) <|
          let y48 := t25 (asI (resC y47 0 0)) (asI (resC y47 0 1)) (asI (resC y47 0 2)) (asI (resC y47 0 3)) (asS (resC y47 0 4)) (asL (resC y47 0 5)) (asL (resC y47 0 6)) y23 y24 y25 y26 y27 y28 y29
          chk (okR zr25 zo25 y48) <|
          if (!(asB (resC y48 0 0))) || ((asI (resC y47 1 0)) != y32) then
           some ([.one (.b false)], [])
          else
           let y49 := t36 y16 y17 y18 y19 y20 y41 y42 (1 : Int)
           chk (okR zr36 zo36 y49) <|
           let y50 := asI (resC y49 0 0)
           if decide (y50 < (0 : Int)) then
            some ([.one (.b false)], [])
           else
            if y50 != y45 then
             some ([.one (.b false)], [])
            else
             some ([.one (.b true)], [])
theorem te9 : ta9 tu21 tu23 tu25 tu28 tu29 tu33 tu36 tu39 tu40 tu41 tu42 = t9 := (by rw [tu21_eq, tu23_eq, tu25_eq, tu28_eq, tu29_eq, tu33_eq, tu36_eq, tu39_eq, tu40_eq, tu41_eq, tu42_eq] : ta9 tu21 tu23 tu25 tu28 tu29 tu33 tu36 tu39 tu40 tu41 tu42 = ta9 t21 t23 t25 t28 t29 t33 t36 t39 t40 t41 t42).trans (by kernel_rfl)
def tw9 (vs : List Vr) : Rs := ta9 tu21 tu23 tu25 tu28 tu29 tu33 tu36 tu39 tu40 tu41 tu42 (vI vs 0) (vI vs 1) (vI vs 2) (vI vs 3) (vS vs 4) (vL vs 5) (vL vs 6) (vL vs 7) (vI vs 8)
def tp9 (vs : List Vr) : Rs := tu9 (vI vs 0) (vI vs 1) (vI vs 2) (vI vs 3) (vS vs 4) (vL vs 5) (vL vs 6) (vL vs 7) (vI vs 8)
theorem tpw9 : tp9 = tw9 := funext fun vs => by unfold tp9 tw9; rw [tu9_eq, te9]
def th9 (xs : List DV) : Bool × List DV × List (List D) := gOf zr9 zo9 (argsT A9 tp9 xs)
def sg49 : Sig := ⟨[.bor, .bor], .sc [.one (.i .i64 0)], [0, 1, 2, 4, 11], []⟩
def sg82 : Sig := ⟨[.bor, .bor], .sc [.one (.i .i64 0)], [0, 1, 2, 4, 11], []⟩
def sg50 : Sig := ⟨[.bor, .bor], .sc [.one (.i .i64 0)], [0, 1, 4, 5, 11, 15, 25], []⟩
def sg12 : Sig := ⟨[.bor, .bor], .sc [.one (.i .i64 0)], [0, 1, 2, 4, 10, 16], []⟩
def sg13 : Sig := ⟨[.bor, .bor], .sc [.one (.i .i64 0)], [0, 1, 2, 4, 11], []⟩
def sg39 : Sig := ⟨[.bor, .bor], .sc [.one (.i .i64 0)], [0, 1, 4, 5, 11, 15, 25], []⟩
def sg21 : Sig := ⟨[.bor, .bor], .sc [.one (.i .i64 0)], [0, 1, 2, 4, 10, 16], []⟩
def sg54 : Sig := ⟨[.bor], .sc [.agg [.i .i64 0, .i .i64 0, .s ⟨#[]⟩]], [0, 1, 2, 3], []⟩
def sg87 : Sig := ⟨[.bor], .sc [.agg [.i .i64 0, .s ⟨#[]⟩]], [0, 1, 2, 3], []⟩
def sg55 : Sig := ⟨[.bor], .fresh [[some (90, 2)]], [0, 2, 3, 4, 11], []⟩
def sg15 : Sig := ⟨[.bor], .fresh [[none, none, none, none, none, some (90, 2)]], [0, 1, 2, 3], []⟩
def sg16 : Sig := ⟨[.bor], .sc [.agg [.i .i64 0, .i .i64 0, .i .i64 0, .i .i64 0, .s ⟨#[]⟩]], [0, 1, 2, 3], []⟩
def sg41 : Sig := ⟨[.bor], .fresh [[some (38, 5)]], [0, 2, 3, 4, 11], []⟩
def sg23 : Sig := ⟨[.bor], .fresh [[none, none, none, none, none, some (90, 2), some (38, 5)]], [0, 1, 2, 3], []⟩
def sg83 : Sig := ⟨[.bor, .bor, .bor], .sc [.one (.b false)], [0, 1, 2, 6], []⟩
def sg84 : Sig := ⟨[.bor, .bor], .sc [.one (.b false)], [0, 1, 4, 6], []⟩
def sg51 : Sig := ⟨[.bor], .sc [.one (.b false)], [0, 1, 2, 3, 4, 5, 68, 76, 105], []⟩
def sg53 : Sig := ⟨[.bor], .fresh [[none, none, none, none, none, some (90, 2)]], [0, 1, 2], []⟩
def sg85 : Sig := ⟨[.bor], .sc [.one (.b false)], [0, 1, 2, 4, 5, 25, 46, 66], []⟩
def sg94 : Sig := ⟨[.bor], .sc [.one (.i .i64 0)], [0, 1, 2, 6], []⟩
def sg86 : Sig := ⟨[.bor, .bor], .sc [.one (.b false)], [0, 1, 2, 3, 4, 5, 14, 15, 41, 68, 82], [(6, [(0, 0, []), (1, 0, []), (2, 0, []), (3, 0, []), (4, 0, []), (5, 0, []), (6, 0, []), (7, 0, []), (8, 0, []), (9, 0, []), (10, 0, []), (11, 0, []), (12, 0, []), (13, 0, []), (14, 0, []), (15, 0, []), (16, 0, []), (17, 0, []), (18, 0, []), (19, 0, []), (20, 0, []), (21, 0, []), (22, 0, []), (23, 0, []), (24, 0, []), (25, 0, [])])]⟩
def sg65 : Sig := ⟨[.bor, .bor, .bor], .fresh [[some (90, 2)]], [0, 1, 2, 3, 6, 7, 32], []⟩
def sg52 : Sig := ⟨[.own [none, none, none, none, none, some (90, 2)], .bor], .fresh [[none, none, none, none, none, some (90, 2)], [none]], [0, 1, 2, 3, 4, 5, 14, 17, 33, 41, 53], []⟩
def sg63 : Sig := ⟨[.bor, .bor], .freshT [.agg [.i .i64 0, .i .i64 0, .i .i64 0, .i .i64 0, .s ⟨#[]⟩, .l []], .one (.b false)] [[none, none, none, none, none, some (90, 2)], [none]], [0, 1, 2, 4, 5, 6, 7, 8, 9, 22, 36], [(5, [(10, 2, []), (0, 0, []), (1, 0, []), (2, 0, []), (3, 0, []), (4, 0, []), (5, 0, []), (6, 1, []), (7, 0, []), (8, 0, []), (9, 0, []), (11, 1, [9]), (12, 0, [])])]⟩
def sg22 : Sig := ⟨[.bor], .sc [.one (.b false)], [0, 1, 2, 4, 14, 1000020], []⟩
def sg70 : Sig := ⟨[.bor], .fresh [[none, none, none, none, none, some (90, 2), some (38, 5)]], [0, 1, 2], [(1, [(3, 2, []), (0, 0, []), (1, 0, []), (4, 0, []), (5, 0, []), (2, 1, [4, 5]), (6, 1, []), (7, 0, []), (8, 1, [])])]⟩
def sg69 : Sig := ⟨[.own [none, none, none, none, none, some (90, 2), some (38, 5)], .bor, .bor], .fresh [[none, none, none, none, none, some (90, 2), some (38, 5)], [none]], [0, 1, 2, 3, 6, 7, 8, 10, 11, 12, 24, 35, 48], [(7, [(9, 2, []), (0, 0, []), (1, 0, []), (2, 0, []), (3, 0, []), (4, 0, []), (5, 1, []), (6, 0, []), (7, 0, []), (8, 0, []), (10, 1, [8]), (11, 0, [])]), (11, [(0, 0, []), (1, 0, []), (2, 0, []), (3, 0, []), (4, 0, []), (5, 0, []), (6, 1, [0, 1]), (7, 1, []), (8, 0, []), (9, 1, [])])]⟩
def sg40 : Sig := ⟨[.bor, .bor, .bor], .fresh [[none, none, none, none, none, some (90, 2), some (38, 5)], [none]], [0, 1, 2, 3, 6, 7, 8, 9, 12], []⟩
def sg76 : Sig := ⟨[.bor, .bor, .bor], .sc [.one (.b false)], [0, 1, 2, 6], []⟩
def sg56 : Sig := ⟨[.bor], .sc [.one (.b false)], [0, 1, 2, 3, 5, 21, 48, 54, 55, 56, 57, 72], []⟩
def sg57 : Sig := ⟨[.bor], .fresh [[none, none, none, none, none, some (90, 2)]], [0, 1, 2], []⟩
def sg45 : Sig := ⟨[.bor], .sc [.one (.b false)], [0, 1, 2, 3, 4, 9, 10, 26, 51, 59], [(5, [(0, 0, []), (1, 0, []), (2, 0, []), (3, 0, []), (4, 0, []), (5, 1, [2, 3]), (6, 0, []), (7, 1, [])]), (8, [(0, 0, []), (1, 0, []), (2, 0, []), (3, 0, []), (4, 0, []), (5, 0, []), (6, 0, []), (7, 1, [2, 3, 4, 5]), (8, 0, []), (9, 1, [4, 5]), (10, 0, []), (11, 1, [])]), (14, [(0, 0, []), (1, 0, []), (2, 0, []), (3, 0, []), (4, 0, []), (5, 0, []), (6, 0, []), (7, 1, [2, 3, 4, 5]), (8, 0, []), (9, 1, [4, 5]), (10, 0, []), (11, 1, [])])]⟩
def sg95 : Sig := ⟨[.rptr 6], .sc [.one (.i .i64 0), .one (.i .i64 0)], [0, 2, 3, 4, 11], [(3, [(0, 0, []), (1, 0, []), (2, 0, []), (3, 0, []), (4, 0, []), (5, 0, []), (6, 0, []), (7, 0, []), (8, 0, []), (9, 0, []), (10, 0, []), (11, 0, [])]), (4, [(0, 0, []), (1, 0, []), (2, 0, []), (3, 0, []), (4, 0, []), (5, 0, []), (6, 0, []), (7, 0, []), (8, 0, []), (9, 0, []), (10, 0, []), (11, 0, []), (12, 0, []), (13, 0, []), (14, 0, []), (15, 0, []), (16, 0, []), (17, 0, [])])]⟩
def sg88 : Sig := ⟨[.rptr 6, .bor], .sc [.one (.b false)], [0, 1, 3, 4, 5, 6, 13, 14, 48, 73], [(4, [(0, 0, []), (1, 0, []), (2, 0, []), (3, 0, []), (4, 0, []), (5, 0, []), (6, 0, []), (7, 0, []), (8, 0, []), (9, 0, []), (10, 0, []), (11, 0, []), (12, 0, []), (13, 0, []), (14, 0, []), (15, 0, []), (16, 0, []), (17, 0, []), (18, 0, []), (19, 0, []), (20, 0, []), (21, 0, []), (22, 0, []), (23, 0, []), (24, 0, []), (25, 0, []), (26, 0, []), (27, 0, []), (28, 0, []), (29, 0, []), (30, 0, []), (31, 0, []), (32, 0, [])]), (6, [(0, 0, []), (1, 0, []), (2, 0, []), (3, 0, []), (4, 0, []), (5, 0, []), (6, 0, []), (7, 0, []), (8, 0, []), (9, 0, []), (10, 0, []), (11, 0, []), (12, 0, []), (13, 0, []), (14, 0, []), (15, 0, []), (16, 0, []), (17, 0, []), (18, 0, []), (19, 0, []), (20, 0, []), (21, 0, []), (22, 0, []), (23, 0, [])]), (8, [(0, 0, []), (1, 0, []), (2, 0, []), (3, 0, []), (4, 0, []), (5, 0, []), (6, 0, []), (7, 0, []), (8, 0, []), (9, 0, []), (10, 0, [])]), (9, [(0, 0, []), (1, 0, []), (2, 0, []), (3, 0, []), (4, 0, []), (5, 0, []), (6, 0, []), (7, 0, []), (8, 0, []), (9, 0, []), (10, 0, []), (11, 0, []), (12, 0, []), (13, 0, []), (14, 0, []), (15, 0, []), (16, 0, []), (17, 0, [])])]⟩
def sg58 : Sig := ⟨[.ptr [none, none, none, none, none, some (90, 2)], .bor], .sc [.one (.b false)], [0, 1, 3, 4, 5, 6, 7, 16, 18, 47, 70, 82, 98], [(14, [(0, 0, []), (1, 0, []), (2, 0, []), (3, 0, []), (4, 0, []), (5, 0, []), (6, 0, []), (7, 0, []), (8, 0, []), (9, 0, []), (10, 1, [0, 1, 2, 3, 4]), (11, 1, [0]), (12, 0, []), (13, 0, []), (14, 1, [])]), (16, [(0, 0, []), (1, 0, []), (2, 0, []), (3, 0, []), (4, 0, []), (5, 0, []), (6, 0, []), (7, 0, []), (8, 0, []), (9, 0, [])]), (5, [(0, 0, []), (1, 0, []), (2, 0, []), (3, 0, []), (4, 0, []), (5, 0, []), (6, 0, []), (7, 0, []), (8, 0, [])]), (6, [(0, 0, []), (1, 0, []), (2, 0, []), (3, 0, []), (4, 0, []), (5, 0, []), (6, 0, []), (7, 0, []), (8, 0, []), (9, 0, []), (10, 0, []), (11, 0, []), (12, 0, []), (13, 0, []), (14, 0, []), (15, 0, []), (16, 0, []), (17, 0, []), (18, 0, []), (19, 0, []), (20, 0, [])])]⟩
def sg64 : Sig := ⟨[.rptr 7], .fresh [[none, none, none, none, none, some (90, 2)], [none]], [0, 2, 3, 4, 6, 20, 30, 31, 32, 33, 38], []⟩
def sg71 : Sig := ⟨[.bor], .fresh [[none, none, none, none, none, some (90, 2), some (38, 5)]], [0, 1, 2], [(1, [(0, 0, []), (1, 0, []), (3, 0, []), (4, 0, []), (2, 1, [3, 4]), (5, 1, []), (6, 0, []), (7, 1, [])])]⟩
def sg42 : Sig := ⟨[.bor, .bor, .bor], .fresh [[none, none, none, none, none, some (90, 2), some (38, 5)], [none]], [0, 1, 2, 3, 6, 7, 8, 9, 10, 11, 13, 19, 29, 30, 31, 32, 43], []⟩
def sg59 : Sig := ⟨[.bor, .bor], .sc [.one (.b false)], [0, 1, 2, 3, 4, 9, 14, 19], []⟩
def sg89 : Sig := ⟨[.bor, .bor], .sc [.one (.b false)], [0, 1, 2, 3, 4, 9, 14], []⟩
def sg60 : Sig := ⟨[.bor, .bor], .sc [.one (.b false)], [0, 1, 4, 5, 10, 14, 26], [(6, [(0, 0, []), (1, 0, []), (2, 0, []), (3, 0, []), (4, 0, []), (5, 0, []), (6, 0, []), (7, 0, []), (8, 0, []), (9, 0, [])])]⟩
def sg18 : Sig := ⟨[.bor, .bor], .sc [.one (.b false)], [0, 1, 2, 3, 4, 9, 14, 20, 26], []⟩
def sg67 : Sig := ⟨[.bor, .bor], .sc [.one (.b false)], [0, 1, 2, 3, 4, 9, 14, 19, 24, 29], []⟩
def sg28 : Sig := ⟨[.bor, .bor], .sc [.one (.b false)], [0, 1, 4, 5, 10, 14, 26], [(6, [(0, 0, []), (1, 0, []), (2, 0, []), (3, 0, []), (4, 0, []), (5, 0, []), (6, 0, []), (7, 0, []), (8, 0, []), (9, 0, [])])]⟩
def sg25 : Sig := ⟨[.bor, .bor], .sc [.one (.b false)], [0, 1, 2, 3, 4, 10, 16], []⟩
def sg68 : Sig := ⟨[.bor], .sc [.one (.s ⟨#[]⟩)], [0, 2, 3, 5, 7], []⟩
def sg61 : Sig := ⟨[.io [some (90, 2)], .bor], .sc [.one (.i .i64 0)], [0, 1, 4, 5, 9], []⟩
def sg19 : Sig := ⟨[.io [none, none, none, none, none, some (90, 2)], .bor], .sc [.one (.i .i64 0)], [0, 1, 2, 4], []⟩
def sg29 : Sig := ⟨[.io [some (38, 5)], .bor], .sc [.one (.i .i64 0)], [0, 1, 4, 5, 9], []⟩
def sg33 : Sig := ⟨[.io [none, none, none, none, none, some (90, 2), some (38, 5)], .bor], .sc [.one (.i .i64 0)], [0, 1, 2, 4], []⟩
def sg62 : Sig := ⟨[.bor, .bor], .sc [.one (.i .i64 0)], [0, 1, 4, 5, 9, 18, 28], [(7, [(0, 0, []), (1, 0, []), (2, 0, []), (3, 0, []), (4, 0, []), (5, 0, []), (6, 0, []), (7, 0, [])])]⟩
def sg20 : Sig := ⟨[.bor, .bor], .sc [.one (.i .i64 0)], [0, 1, 2, 4, 10], []⟩
def sg30 : Sig := ⟨[.bor, .bor], .sc [.one (.i .i64 0)], [0, 1, 4, 5, 9, 18, 27, 36, 45, 55], [(16, [(0, 0, []), (1, 0, []), (2, 0, []), (3, 0, []), (4, 0, []), (5, 0, []), (6, 0, []), (7, 0, [])])]⟩
def sg36 : Sig := ⟨[.bor, .bor], .sc [.one (.i .i64 0)], [0, 1, 2, 4, 10, 16], []⟩
def sg9 : Sig := ⟨[.bor, .bor, .bor], .sc [.one (.b false)], [0, 1, 2, 3, 6, 7, 8, 9, 10, 11, 12, 13, 14, 15, 16, 17, 18, 23, 28, 57, 62, 67, 86, 94, 97, 115, 120, 123], [(14, [(0, 0, []), (1, 0, []), (2, 1, [0]), (3, 0, []), (4, 0, [])])]⟩
def sig : Nat → Sig := lkF ⟨[], .fresh [], [], []⟩ [(49, sg49), (82, sg82), (50, sg50), (12, sg12), (13, sg13), (39, sg39), (21, sg21), (54, sg54), (87, sg87), (55, sg55), (15, sg15), (16, sg16), (41, sg41), (23, sg23), (83, sg83), (84, sg84), (51, sg51), (53, sg53), (85, sg85), (94, sg94), (86, sg86), (65, sg65), (52, sg52), (63, sg63), (22, sg22), (70, sg70), (69, sg69), (40, sg40), (76, sg76), (56, sg56), (57, sg57), (45, sg45), (95, sg95), (88, sg88), (58, sg58), (64, sg64), (71, sg71), (42, sg42), (59, sg59), (89, sg89), (60, sg60), (18, sg18), (67, sg67), (28, sg28), (25, sg25), (68, sg68), (61, sg61), (19, sg19), (29, sg29), (33, sg33), (62, sg62), (20, sg20), (30, sg30), (36, sg36), (9, sg9)]
def dep : Nat → Nat := lkF 0 [(49, 1), (82, 1), (50, 2), (12, 3), (13, 1), (39, 2), (21, 4), (54, 1), (87, 1), (55, 2), (15, 3), (16, 1), (41, 2), (23, 4), (83, 1), (84, 2), (51, 3), (53, 1), (85, 2), (94, 1), (86, 2), (65, 1), (52, 3), (63, 4), (22, 5), (70, 2), (69, 5), (40, 6), (76, 1), (56, 2), (57, 1), (45, 2), (95, 1), (88, 2), (58, 3), (64, 4), (71, 2), (42, 5), (59, 1), (89, 1), (60, 2), (18, 3), (67, 1), (28, 2), (25, 4), (68, 1), (61, 2), (19, 3), (29, 2), (33, 4), (62, 2), (20, 3), (30, 2), (36, 4), (9, 7)]
def gT : List (Nat × (List DV → Bool × List DV × List (List D))) := [(49, th49), (82, th82), (50, th50), (12, th12), (13, th13), (39, th39), (21, th21), (54, th54), (87, th87), (55, th55), (15, th15), (16, th16), (41, th41), (23, th23), (83, th83), (84, th84), (51, th51), (53, th53), (85, th85), (94, th94), (86, th86), (65, th65), (52, th52), (63, th63), (22, th22), (70, th70), (69, th69), (40, th40), (76, th76), (56, th56), (57, th57), (45, th45), (95, th95), (88, th88), (58, th58), (64, th64), (71, th71), (42, th42), (59, th59), (89, th89), (60, th60), (18, th18), (67, th67), (28, th28), (25, th25), (68, th68), (61, th61), (19, th19), (29, th29), (33, th33), (62, th62), (20, th20), (30, th30), (36, th36), (9, th9)]
def G : Nat → List DV → Bool × List DV × List (List D) := lkF (fun _ => (false, [], [])) gT
noncomputable def C49 : Ctx := ⟨Try.prog, sig, Gd G dep (dep 49), (sig 49).keep, (sig 49).ord⟩
noncomputable def c49 : Code := Try.f49.body.getD .skip
def ST49 : List (Nat × (St → Cont (List DV × List (List D)) → Rs)) := []
theorem r49 : ∀ vs, tw49 vs = bodyK C49 (lkS ST49) Try.f49 (sig 49) c49 (fillAs A49 0 vs) := fun vs => by kernel_rfl
theorem ok49 : ∀ xs q, opt (th49 xs) = some q → evalBody Try.prog sig (Gd G dep (dep 49)) KK 49 xs = some q := fun xs q h => body_ok Try.func49 (c := c49) rfl A49 tw49 (sums_of (C := C49) (t := ST49) trivial) r49 (by rw [← tpw49]; exact opt_gOf h)
noncomputable def C82 : Ctx := ⟨Try.prog, sig, Gd G dep (dep 82), (sig 82).keep, (sig 82).ord⟩
noncomputable def c82 : Code := Try.f82.body.getD .skip
def ST82 : List (Nat × (St → Cont (List DV × List (List D)) → Rs)) := []
theorem r82 : ∀ vs, tw82 vs = bodyK C82 (lkS ST82) Try.f82 (sig 82) c82 (fillAs A82 0 vs) := fun vs => by kernel_rfl
theorem ok82 : ∀ xs q, opt (th82 xs) = some q → evalBody Try.prog sig (Gd G dep (dep 82)) KK 82 xs = some q := fun xs q h => body_ok Try.func82 (c := c82) rfl A82 tw82 (sums_of (C := C82) (t := ST82) trivial) r82 (by rw [← tpw82]; exact opt_gOf h)
noncomputable def C50 : Ctx := ⟨Try.prog, sig, Gd G dep (dep 50), (sig 50).keep, (sig 50).ord⟩
noncomputable def c50 : Code := Try.f50.body.getD .skip
def T50o1 : TSt := ⟨[.d (.l), .d (.i .i64), .d (.i .i64), .d (.i .i64), .d (.b), .any, .any], []⟩
def X50o1e1 : TSt := ⟨[.d (.l), .d (.i .i64), .d (.i .i64), .d (.i .i64), .d (.b), .d (.b), .d (.b)], []⟩
def X50o1e2 : TSt := ⟨[.d (.l), .d (.i .i64), .d (.i .i64), .d (.i .i64), .d (.b), .d (.b), .any], []⟩
def L50o1 (m : Nat) (vs : List Vr) (K : Cont (List DV × List (List D))) : Rs := la50o1 tu82 (vL vs 0) (vI vs 2) (vB vs 4) (fun n22 n23 b24 b25 => K .ret (fillS X50o1e1 [.l (vL vs 0), .i (n22), .i ((-1 : Int)), .i (n23), .b (vB vs 4), .b (b24), .b (b25)])) (fun n26 n27 b28 v29 => K (.exit 0) (fillS X50o1e2 [.l (vL vs 0), .i (n26), .i (vI vs 2), .i (n27), .b (vB vs 4), .b (b28), .v (v29)])) m (vI vs 1) (vI vs 3) (vV vs 5) (vV vs 6)
def ST50 : List (Nat × (St → Cont (List DV × List (List D)) → Rs)) := [(1, sumT T50o1 (L50o1 KK))]
noncomputable def b50o1 : Code := match nodeAt c50 1 with | some (.loop a) => a | _ => .skip
theorem q50o1 : ∀ m vs K, L50o1 (m + 1) vs K = denK C50 (lkS ST50) b50o1 2 (fillS T50o1 vs) (loopK T50o1 (L50o1 m) K) := fun m vs K => by kernel_rfl
theorem o50o1 : SumOk C50 KK (sumT T50o1 (L50o1 KK)) (.loop b50o1) := loop_ok T50o1 L50o1 (sums_of (t := ST50) ⟨fun _ _ h => absurd h (by decide), trivial⟩) (fun _ _ => rfl) q50o1
theorem r50 : ∀ vs, tw50 vs = bodyK C50 (lkS ST50) Try.f50 (sig 50) c50 (fillAs A50 0 vs) := fun vs => by kernel_rfl
theorem ok50 : ∀ xs q, opt (th50 xs) = some q → evalBody Try.prog sig (Gd G dep (dep 50)) KK 50 xs = some q := fun xs q h => body_ok Try.func50 (c := c50) rfl A50 tw50 (sums_of (C := C50) (t := ST50) ⟨sum_in (c' := .loop b50o1) (by kernel_rfl) (o50o1), trivial⟩) r50 (by rw [← tpw50]; exact opt_gOf h)
noncomputable def C12 : Ctx := ⟨Try.prog, sig, Gd G dep (dep 12), (sig 12).keep, (sig 12).ord⟩
noncomputable def c12 : Code := Try.f12.body.getD .skip
def ST12 : List (Nat × (St → Cont (List DV × List (List D)) → Rs)) := []
theorem r12 : ∀ vs, tw12 vs = bodyK C12 (lkS ST12) Try.f12 (sig 12) c12 (fillAs A12 0 vs) := fun vs => by kernel_rfl
theorem ok12 : ∀ xs q, opt (th12 xs) = some q → evalBody Try.prog sig (Gd G dep (dep 12)) KK 12 xs = some q := fun xs q h => body_ok Try.func12 (c := c12) rfl A12 tw12 (sums_of (C := C12) (t := ST12) trivial) r12 (by rw [← tpw12]; exact opt_gOf h)
noncomputable def C13 : Ctx := ⟨Try.prog, sig, Gd G dep (dep 13), (sig 13).keep, (sig 13).ord⟩
noncomputable def c13 : Code := Try.f13.body.getD .skip
def ST13 : List (Nat × (St → Cont (List DV × List (List D)) → Rs)) := []
theorem r13 : ∀ vs, tw13 vs = bodyK C13 (lkS ST13) Try.f13 (sig 13) c13 (fillAs A13 0 vs) := fun vs => by kernel_rfl
theorem ok13 : ∀ xs q, opt (th13 xs) = some q → evalBody Try.prog sig (Gd G dep (dep 13)) KK 13 xs = some q := fun xs q h => body_ok Try.func13 (c := c13) rfl A13 tw13 (sums_of (C := C13) (t := ST13) trivial) r13 (by rw [← tpw13]; exact opt_gOf h)
noncomputable def C39 : Ctx := ⟨Try.prog, sig, Gd G dep (dep 39), (sig 39).keep, (sig 39).ord⟩
noncomputable def c39 : Code := Try.f39.body.getD .skip
def T39o1 : TSt := ⟨[.d (.l), .d (.i .i64), .d (.i .i64), .d (.i .i64), .d (.b), .any, .any], []⟩
def X39o1e1 : TSt := ⟨[.d (.l), .d (.i .i64), .d (.i .i64), .d (.i .i64), .d (.b), .d (.b), .d (.b)], []⟩
def X39o1e2 : TSt := ⟨[.d (.l), .d (.i .i64), .d (.i .i64), .d (.i .i64), .d (.b), .d (.b), .any], []⟩
def L39o1 (m : Nat) (vs : List Vr) (K : Cont (List DV × List (List D))) : Rs := la39o1 tu13 (vL vs 0) (vI vs 2) (vB vs 4) (fun n22 n23 b24 b25 => K .ret (fillS X39o1e1 [.l (vL vs 0), .i (n22), .i ((-1 : Int)), .i (n23), .b (vB vs 4), .b (b24), .b (b25)])) (fun n26 n27 b28 v29 => K (.exit 0) (fillS X39o1e2 [.l (vL vs 0), .i (n26), .i (vI vs 2), .i (n27), .b (vB vs 4), .b (b28), .v (v29)])) m (vI vs 1) (vI vs 3) (vV vs 5) (vV vs 6)
def ST39 : List (Nat × (St → Cont (List DV × List (List D)) → Rs)) := [(1, sumT T39o1 (L39o1 KK))]
noncomputable def b39o1 : Code := match nodeAt c39 1 with | some (.loop a) => a | _ => .skip
theorem q39o1 : ∀ m vs K, L39o1 (m + 1) vs K = denK C39 (lkS ST39) b39o1 2 (fillS T39o1 vs) (loopK T39o1 (L39o1 m) K) := fun m vs K => by kernel_rfl
theorem o39o1 : SumOk C39 KK (sumT T39o1 (L39o1 KK)) (.loop b39o1) := loop_ok T39o1 L39o1 (sums_of (t := ST39) ⟨fun _ _ h => absurd h (by decide), trivial⟩) (fun _ _ => rfl) q39o1
theorem r39 : ∀ vs, tw39 vs = bodyK C39 (lkS ST39) Try.f39 (sig 39) c39 (fillAs A39 0 vs) := fun vs => by kernel_rfl
theorem ok39 : ∀ xs q, opt (th39 xs) = some q → evalBody Try.prog sig (Gd G dep (dep 39)) KK 39 xs = some q := fun xs q h => body_ok Try.func39 (c := c39) rfl A39 tw39 (sums_of (C := C39) (t := ST39) ⟨sum_in (c' := .loop b39o1) (by kernel_rfl) (o39o1), trivial⟩) r39 (by rw [← tpw39]; exact opt_gOf h)
noncomputable def C21 : Ctx := ⟨Try.prog, sig, Gd G dep (dep 21), (sig 21).keep, (sig 21).ord⟩
noncomputable def c21 : Code := Try.f21.body.getD .skip
def ST21 : List (Nat × (St → Cont (List DV × List (List D)) → Rs)) := []
theorem r21 : ∀ vs, tw21 vs = bodyK C21 (lkS ST21) Try.f21 (sig 21) c21 (fillAs A21 0 vs) := fun vs => by kernel_rfl
theorem ok21 : ∀ xs q, opt (th21 xs) = some q → evalBody Try.prog sig (Gd G dep (dep 21)) KK 21 xs = some q := fun xs q h => body_ok Try.func21 (c := c21) rfl A21 tw21 (sums_of (C := C21) (t := ST21) trivial) r21 (by rw [← tpw21]; exact opt_gOf h)
noncomputable def C54 : Ctx := ⟨Try.prog, sig, Gd G dep (dep 54), (sig 54).keep, (sig 54).ord⟩
noncomputable def c54 : Code := Try.f54.body.getD .skip
def ST54 : List (Nat × (St → Cont (List DV × List (List D)) → Rs)) := []
theorem r54 : ∀ vs, tw54 vs = bodyK C54 (lkS ST54) Try.f54 (sig 54) c54 (fillAs A54 0 vs) := fun vs => by kernel_rfl
theorem ok54 : ∀ xs q, opt (th54 xs) = some q → evalBody Try.prog sig (Gd G dep (dep 54)) KK 54 xs = some q := fun xs q h => body_ok Try.func54 (c := c54) rfl A54 tw54 (sums_of (C := C54) (t := ST54) trivial) r54 (by rw [← tpw54]; exact opt_gOf h)
noncomputable def C87 : Ctx := ⟨Try.prog, sig, Gd G dep (dep 87), (sig 87).keep, (sig 87).ord⟩
noncomputable def c87 : Code := Try.f87.body.getD .skip
def ST87 : List (Nat × (St → Cont (List DV × List (List D)) → Rs)) := []
theorem r87 : ∀ vs, tw87 vs = bodyK C87 (lkS ST87) Try.f87 (sig 87) c87 (fillAs A87 0 vs) := fun vs => by kernel_rfl
theorem ok87 : ∀ xs q, opt (th87 xs) = some q → evalBody Try.prog sig (Gd G dep (dep 87)) KK 87 xs = some q := fun xs q h => body_ok Try.func87 (c := c87) rfl A87 tw87 (sums_of (C := C87) (t := ST87) trivial) r87 (by rw [← tpw87]; exact opt_gOf h)
noncomputable def C55 : Ctx := ⟨Try.prog, sig, Gd G dep (dep 55), (sig 55).keep, (sig 55).ord⟩
noncomputable def c55 : Code := Try.f55.body.getD .skip
def T55o0 : TSt := ⟨[.d (.l), .nils, .own 448, .d (.i .i64), .any], [(448, .row 90 2)]⟩
def X55o0e1 : TSt := ⟨[.d (.l), .nils, .own 448, .d (.i .i64), .d (.b)], [(448, .row 90 2)]⟩
def L55o0 (m : Nat) (vs : List Vr) (K : Cont (List DV × List (List D))) : Rs := la55o0 tu87 (vL vs 0) (fun n13 b14 l15 => K (.exit 0) (fillS X55o0e1 [.l (vL vs 0), .i (n13), .b (b14), .l (l15)])) m (vI vs 1) (vV vs 2) (vL vs 3)
def ST55 : List (Nat × (St → Cont (List DV × List (List D)) → Rs)) := [(0, sumT T55o0 (L55o0 KK))]
noncomputable def b55o0 : Code := match nodeAt c55 0 with | some (.loop a) => a | _ => .skip
theorem q55o0 : ∀ m vs K, L55o0 (m + 1) vs K = denK C55 (lkS ST55) b55o0 1 (fillS T55o0 vs) (loopK T55o0 (L55o0 m) K) := fun m vs K => by kernel_rfl
theorem o55o0 : SumOk C55 KK (sumT T55o0 (L55o0 KK)) (.loop b55o0) := loop_ok T55o0 L55o0 (sums_of (t := ST55) ⟨fun _ _ h => absurd h (by decide), trivial⟩) (fun _ _ => rfl) q55o0
theorem r55 : ∀ vs, tw55 vs = bodyK C55 (lkS ST55) Try.f55 (sig 55) c55 (fillAs A55 0 vs) := fun vs => by kernel_rfl
theorem ok55 : ∀ xs q, opt (th55 xs) = some q → evalBody Try.prog sig (Gd G dep (dep 55)) KK 55 xs = some q := fun xs q h => body_ok Try.func55 (c := c55) rfl A55 tw55 (sums_of (C := C55) (t := ST55) ⟨sum_in (c' := .loop b55o0) (by kernel_rfl) (o55o0), trivial⟩) r55 (by rw [← tpw55]; exact opt_gOf h)
noncomputable def C15 : Ctx := ⟨Try.prog, sig, Gd G dep (dep 15), (sig 15).keep, (sig 15).ord⟩
noncomputable def c15 : Code := Try.f15.body.getD .skip
def ST15 : List (Nat × (St → Cont (List DV × List (List D)) → Rs)) := []
theorem r15 : ∀ vs, tw15 vs = bodyK C15 (lkS ST15) Try.f15 (sig 15) c15 (fillAs A15 0 vs) := fun vs => by kernel_rfl
theorem ok15 : ∀ xs q, opt (th15 xs) = some q → evalBody Try.prog sig (Gd G dep (dep 15)) KK 15 xs = some q := fun xs q h => body_ok Try.func15 (c := c15) rfl A15 tw15 (sums_of (C := C15) (t := ST15) trivial) r15 (by rw [← tpw15]; exact opt_gOf h)
noncomputable def C16 : Ctx := ⟨Try.prog, sig, Gd G dep (dep 16), (sig 16).keep, (sig 16).ord⟩
noncomputable def c16 : Code := Try.f16.body.getD .skip
def ST16 : List (Nat × (St → Cont (List DV × List (List D)) → Rs)) := []
theorem r16 : ∀ vs, tw16 vs = bodyK C16 (lkS ST16) Try.f16 (sig 16) c16 (fillAs A16 0 vs) := fun vs => by kernel_rfl
theorem ok16 : ∀ xs q, opt (th16 xs) = some q → evalBody Try.prog sig (Gd G dep (dep 16)) KK 16 xs = some q := fun xs q h => body_ok Try.func16 (c := c16) rfl A16 tw16 (sums_of (C := C16) (t := ST16) trivial) r16 (by rw [← tpw16]; exact opt_gOf h)
noncomputable def C41 : Ctx := ⟨Try.prog, sig, Gd G dep (dep 41), (sig 41).keep, (sig 41).ord⟩
noncomputable def c41 : Code := Try.f41.body.getD .skip
def T41o0 : TSt := ⟨[.d (.l), .nils, .own 448, .d (.i .i64), .any], [(448, .row 38 5)]⟩
def X41o0e1 : TSt := ⟨[.d (.l), .nils, .own 448, .d (.i .i64), .d (.b)], [(448, .row 38 5)]⟩
def L41o0 (m : Nat) (vs : List Vr) (K : Cont (List DV × List (List D))) : Rs := la41o0 tu16 (vL vs 0) (fun n13 b14 l15 => K (.exit 0) (fillS X41o0e1 [.l (vL vs 0), .i (n13), .b (b14), .l (l15)])) m (vI vs 1) (vV vs 2) (vL vs 3)
def ST41 : List (Nat × (St → Cont (List DV × List (List D)) → Rs)) := [(0, sumT T41o0 (L41o0 KK))]
noncomputable def b41o0 : Code := match nodeAt c41 0 with | some (.loop a) => a | _ => .skip
theorem q41o0 : ∀ m vs K, L41o0 (m + 1) vs K = denK C41 (lkS ST41) b41o0 1 (fillS T41o0 vs) (loopK T41o0 (L41o0 m) K) := fun m vs K => by kernel_rfl
theorem o41o0 : SumOk C41 KK (sumT T41o0 (L41o0 KK)) (.loop b41o0) := loop_ok T41o0 L41o0 (sums_of (t := ST41) ⟨fun _ _ h => absurd h (by decide), trivial⟩) (fun _ _ => rfl) q41o0
theorem r41 : ∀ vs, tw41 vs = bodyK C41 (lkS ST41) Try.f41 (sig 41) c41 (fillAs A41 0 vs) := fun vs => by kernel_rfl
theorem ok41 : ∀ xs q, opt (th41 xs) = some q → evalBody Try.prog sig (Gd G dep (dep 41)) KK 41 xs = some q := fun xs q h => body_ok Try.func41 (c := c41) rfl A41 tw41 (sums_of (C := C41) (t := ST41) ⟨sum_in (c' := .loop b41o0) (by kernel_rfl) (o41o0), trivial⟩) r41 (by rw [← tpw41]; exact opt_gOf h)
noncomputable def C23 : Ctx := ⟨Try.prog, sig, Gd G dep (dep 23), (sig 23).keep, (sig 23).ord⟩
noncomputable def c23 : Code := Try.f23.body.getD .skip
def ST23 : List (Nat × (St → Cont (List DV × List (List D)) → Rs)) := []
theorem r23 : ∀ vs, tw23 vs = bodyK C23 (lkS ST23) Try.f23 (sig 23) c23 (fillAs A23 0 vs) := fun vs => by kernel_rfl
theorem ok23 : ∀ xs q, opt (th23 xs) = some q → evalBody Try.prog sig (Gd G dep (dep 23)) KK 23 xs = some q := fun xs q h => body_ok Try.func23 (c := c23) rfl A23 tw23 (sums_of (C := C23) (t := ST23) trivial) r23 (by rw [← tpw23]; exact opt_gOf h)
noncomputable def C83 : Ctx := ⟨Try.prog, sig, Gd G dep (dep 83), (sig 83).keep, (sig 83).ord⟩
noncomputable def c83 : Code := Try.f83.body.getD .skip
def ST83 : List (Nat × (St → Cont (List DV × List (List D)) → Rs)) := []
theorem r83 : ∀ vs, tw83 vs = bodyK C83 (lkS ST83) Try.f83 (sig 83) c83 (fillAs A83 0 vs) := fun vs => by kernel_rfl
theorem ok83 : ∀ xs q, opt (th83 xs) = some q → evalBody Try.prog sig (Gd G dep (dep 83)) KK 83 xs = some q := fun xs q h => body_ok Try.func83 (c := c83) rfl A83 tw83 (sums_of (C := C83) (t := ST83) trivial) r83 (by rw [← tpw83]; exact opt_gOf h)
noncomputable def C84 : Ctx := ⟨Try.prog, sig, Gd G dep (dep 84), (sig 84).keep, (sig 84).ord⟩
noncomputable def c84 : Code := Try.f84.body.getD .skip
def ST84 : List (Nat × (St → Cont (List DV × List (List D)) → Rs)) := []
theorem r84 : ∀ vs, tw84 vs = bodyK C84 (lkS ST84) Try.f84 (sig 84) c84 (fillAs A84 0 vs) := fun vs => by kernel_rfl
theorem ok84 : ∀ xs q, opt (th84 xs) = some q → evalBody Try.prog sig (Gd G dep (dep 84)) KK 84 xs = some q := fun xs q h => body_ok Try.func84 (c := c84) rfl A84 tw84 (sums_of (C := C84) (t := ST84) trivial) r84 (by rw [← tpw84]; exact opt_gOf h)
noncomputable def C51 : Ctx := ⟨Try.prog, sig, Gd G dep (dep 51), (sig 51).keep, (sig 51).ord⟩
noncomputable def c51 : Code := Try.f51.body.getD .skip
def T51o1 : TSt := ⟨[.agg [.d (.i .i64), .d (.i .i64), .d (.i .i64), .d (.i .i64), .d (.s), .d (.l)], .ptr 64 0, .d (.b), .d (.i .i64), .d (.i .i64), .undef, .d (.b), .any, .any], [(64, .box [.d (.i .i64), .d (.i .i64), .d (.i .i64), .d (.i .i64), .d (.s), .d (.l)])]⟩
def X51o1e1 : TSt := ⟨[.agg [.d (.i .i64), .d (.i .i64), .d (.i .i64), .d (.i .i64), .d (.s), .d (.l)], .ptr 64 0, .d (.b), .d (.i .i64), .d (.i .i64), .ptr 320 0, .d (.b), .d (.b), .d (.b)], [(64, .box [.d (.i .i64), .d (.i .i64), .d (.i .i64), .d (.i .i64), .d (.s), .d (.l)]), (320, .box [.d (.i .i64), .d (.s)])]⟩
def X51o1e2 : TSt := ⟨[.agg [.d (.i .i64), .d (.i .i64), .d (.i .i64), .d (.i .i64), .d (.s), .d (.l)], .ptr 64 0, .d (.b), .d (.i .i64), .d (.i .i64), .undef, .d (.b), .d (.b), .any], [(64, .box [.d (.i .i64), .d (.i .i64), .d (.i .i64), .d (.i .i64), .d (.s), .d (.l)])]⟩
def L51o1 (m : Nat) (vs : List Vr) (K : Cont (List DV × List (List D))) : Rs := la51o1 tu83 tu84 (vI vs 0) (vI vs 1) (vI vs 2) (vI vs 3) (vS vs 4) (vL vs 5) (vB vs 6) (vB vs 9) (vI vs 12) (vI vs 13) (vI vs 14) (vI vs 15) (vS vs 16) (vL vs 17) (fun n59 n60 b61 b62 n63 s64 => K .ret (fillS X51o1e1 [.i (vI vs 0), .i (vI vs 1), .i (vI vs 2), .i (vI vs 3), .s (vS vs 4), .l (vL vs 5), .b (false), .i (n59), .i (n60), .b (vB vs 9), .b (b61), .b (b62), .i (vI vs 12), .i (vI vs 13), .i (vI vs 14), .i (vI vs 15), .s (vS vs 16), .l (vL vs 17), .i (n63), .s (s64)])) (fun n65 n66 b67 v68 => K (.exit 0) (fillS X51o1e2 [.i (vI vs 0), .i (vI vs 1), .i (vI vs 2), .i (vI vs 3), .s (vS vs 4), .l (vL vs 5), .b (vB vs 6), .i (n65), .i (n66), .b (vB vs 9), .b (b67), .v (v68), .i (vI vs 12), .i (vI vs 13), .i (vI vs 14), .i (vI vs 15), .s (vS vs 16), .l (vL vs 17)])) m (vI vs 7) (vI vs 8) (vV vs 10) (vV vs 11)
def ST51 : List (Nat × (St → Cont (List DV × List (List D)) → Rs)) := [(1, sumT T51o1 (L51o1 KK))]
noncomputable def b51o1 : Code := match nodeAt c51 1 with | some (.loop a) => a | _ => .skip
theorem q51o1 : ∀ m vs K, L51o1 (m + 1) vs K = denK C51 (lkS ST51) b51o1 2 (fillS T51o1 vs) (loopK T51o1 (L51o1 m) K) := fun m vs K => by kernel_rfl
theorem o51o1 : SumOk C51 KK (sumT T51o1 (L51o1 KK)) (.loop b51o1) := loop_ok T51o1 L51o1 (sums_of (t := ST51) ⟨fun _ _ h => absurd h (by decide), trivial⟩) (fun _ _ => rfl) q51o1
theorem r51 : ∀ vs, tw51 vs = bodyK C51 (lkS ST51) Try.f51 (sig 51) c51 (fillAs A51 0 vs) := fun vs => by kernel_rfl
theorem ok51 : ∀ xs q, opt (th51 xs) = some q → evalBody Try.prog sig (Gd G dep (dep 51)) KK 51 xs = some q := fun xs q h => body_ok Try.func51 (c := c51) rfl A51 tw51 (sums_of (C := C51) (t := ST51) ⟨sum_in (c' := .loop b51o1) (by kernel_rfl) (o51o1), trivial⟩) r51 (by rw [← tpw51]; exact opt_gOf h)
noncomputable def C53 : Ctx := ⟨Try.prog, sig, Gd G dep (dep 53), (sig 53).keep, (sig 53).ord⟩
noncomputable def c53 : Code := Try.f53.body.getD .skip
def ST53 : List (Nat × (St → Cont (List DV × List (List D)) → Rs)) := []
theorem r53 : ∀ vs, tw53 vs = bodyK C53 (lkS ST53) Try.f53 (sig 53) c53 (fillAs A53 0 vs) := fun vs => by kernel_rfl
theorem ok53 : ∀ xs q, opt (th53 xs) = some q → evalBody Try.prog sig (Gd G dep (dep 53)) KK 53 xs = some q := fun xs q h => body_ok Try.func53 (c := c53) rfl A53 tw53 (sums_of (C := C53) (t := ST53) trivial) r53 (by rw [← tpw53]; exact opt_gOf h)
noncomputable def C85 : Ctx := ⟨Try.prog, sig, Gd G dep (dep 85), (sig 85).keep, (sig 85).ord⟩
noncomputable def c85 : Code := Try.f85.body.getD .skip
def ST85 : List (Nat × (St → Cont (List DV × List (List D)) → Rs)) := []
theorem r85 : ∀ vs, tw85 vs = bodyK C85 (lkS ST85) Try.f85 (sig 85) c85 (fillAs A85 0 vs) := fun vs => by kernel_rfl
theorem ok85 : ∀ xs q, opt (th85 xs) = some q → evalBody Try.prog sig (Gd G dep (dep 85)) KK 85 xs = some q := fun xs q h => body_ok Try.func85 (c := c85) rfl A85 tw85 (sums_of (C := C85) (t := ST85) trivial) r85 (by rw [← tpw85]; exact opt_gOf h)
noncomputable def C94 : Ctx := ⟨Try.prog, sig, Gd G dep (dep 94), (sig 94).keep, (sig 94).ord⟩
noncomputable def c94 : Code := Try.f94.body.getD .skip
def ST94 : List (Nat × (St → Cont (List DV × List (List D)) → Rs)) := []
theorem r94 : ∀ vs, tw94 vs = bodyK C94 (lkS ST94) Try.f94 (sig 94) c94 (fillAs A94 0 vs) := fun vs => by kernel_rfl
theorem ok94 : ∀ xs q, opt (th94 xs) = some q → evalBody Try.prog sig (Gd G dep (dep 94)) KK 94 xs = some q := fun xs q h => body_ok Try.func94 (c := c94) rfl A94 tw94 (sums_of (C := C94) (t := ST94) trivial) r94 (by rw [← tpw94]; exact opt_gOf h)
noncomputable def C86 : Ctx := ⟨Try.prog, sig, Gd G dep (dep 86), (sig 86).keep, (sig 86).ord⟩
noncomputable def c86 : Code := Try.f86.body.getD .skip
def ST86 : List (Nat × (St → Cont (List DV × List (List D)) → Rs)) := []
theorem r86 : ∀ vs, tw86 vs = bodyK C86 (lkS ST86) Try.f86 (sig 86) c86 (fillAs A86 0 vs) := fun vs => by kernel_rfl
theorem ok86 : ∀ xs q, opt (th86 xs) = some q → evalBody Try.prog sig (Gd G dep (dep 86)) KK 86 xs = some q := fun xs q h => body_ok Try.func86 (c := c86) rfl A86 tw86 (sums_of (C := C86) (t := ST86) trivial) r86 (by rw [← tpw86]; exact opt_gOf h)
noncomputable def C65 : Ctx := ⟨Try.prog, sig, Gd G dep (dep 65), (sig 65).keep, (sig 65).ord⟩
noncomputable def c65 : Code := Try.f65.body.getD .skip
def ST65 : List (Nat × (St → Cont (List DV × List (List D)) → Rs)) := []
theorem r65 : ∀ vs, tw65 vs = bodyK C65 (lkS ST65) Try.f65 (sig 65) c65 (fillAs A65 0 vs) := fun vs => by kernel_rfl
theorem ok65 : ∀ xs q, opt (th65 xs) = some q → evalBody Try.prog sig (Gd G dep (dep 65)) KK 65 xs = some q := fun xs q h => body_ok Try.func65 (c := c65) rfl A65 tw65 (sums_of (C := C65) (t := ST65) trivial) r65 (by rw [← tpw65]; exact opt_gOf h)
noncomputable def C52 : Ctx := ⟨Try.prog, sig, Gd G dep (dep 52), (sig 52).keep, (sig 52).ord⟩
noncomputable def c52 : Code := Try.f52.body.getD .skip
def ST52 : List (Nat × (St → Cont (List DV × List (List D)) → Rs)) := []
theorem r52 : ∀ vs, tw52 vs = bodyK C52 (lkS ST52) Try.f52 (sig 52) c52 (fillAs A52 0 vs) := fun vs => by kernel_rfl
theorem ok52 : ∀ xs q, opt (th52 xs) = some q → evalBody Try.prog sig (Gd G dep (dep 52)) KK 52 xs = some q := fun xs q h => body_ok Try.func52 (c := c52) rfl A52 tw52 (sums_of (C := C52) (t := ST52) trivial) r52 (by rw [← tpw52]; exact opt_gOf h)
noncomputable def C63 : Ctx := ⟨Try.prog, sig, Gd G dep (dep 63), (sig 63).keep, (sig 63).ord⟩
noncomputable def c63 : Code := Try.f63.body.getD .skip
def T63o0 : TSt := ⟨[.agg [.d (.i .i64), .d (.i .i64), .d (.i .i64), .d (.i .i64), .d (.s), .d (.l), .d (.l)], .d (.i .i64), .ptr 128 0, .ptr 256 0, .d (.b), .ptr 384 0, .d (.i .i64), .undef, .any, .any, .any], [(128, .box [.d (.i .i64), .d (.i .i64), .d (.i .i64), .d (.i .i64), .d (.s), .d (.l), .d (.l)]), (256, .box [.d (.i .i64), .d (.i .i64), .d (.i .i64), .d (.i .i64), .d (.s), .nils]), (384, .box [.d (.i .i64), .d (.i .i64), .d (.i .i64), .d (.i .i64), .d (.s), .own 24582]), (24582, .row 90 2)]⟩
def X63o0e1 : TSt := ⟨[.agg [.d (.i .i64), .d (.i .i64), .d (.i .i64), .d (.i .i64), .d (.s), .d (.l), .d (.l)], .d (.i .i64), .ptr 128 0, .ptr 256 0, .d (.b), .ptr 384 0, .d (.i .i64), .ptr 512 0, .d (.b), .d (.b), .d (.b)], [(128, .box [.d (.i .i64), .d (.i .i64), .d (.i .i64), .d (.i .i64), .d (.s), .d (.l), .d (.l)]), (256, .box [.d (.i .i64), .d (.i .i64), .d (.i .i64), .d (.i .i64), .d (.s), .undef]), (384, .box [.d (.i .i64), .d (.i .i64), .d (.i .i64), .d (.i .i64), .d (.s), .undef]), (512, .box [.d (.i .i64), .d (.i .i64), .d (.i .i64), .d (.i .i64), .d (.s), .own 32774]), (32774, .row 90 2)]⟩
def X63o0e2 : TSt := ⟨[.agg [.d (.i .i64), .d (.i .i64), .d (.i .i64), .d (.i .i64), .d (.s), .d (.l), .d (.l)], .d (.i .i64), .ptr 128 0, .ptr 256 0, .d (.b), .ptr 384 0, .d (.i .i64), .undef, .any, .d (.b), .any], [(128, .box [.d (.i .i64), .d (.i .i64), .d (.i .i64), .d (.i .i64), .d (.s), .d (.l), .d (.l)]), (256, .box [.d (.i .i64), .d (.i .i64), .d (.i .i64), .d (.i .i64), .d (.s), .nils]), (384, .box [.d (.i .i64), .d (.i .i64), .d (.i .i64), .d (.i .i64), .d (.s), .own 24582]), (24582, .row 90 2)]⟩
def L63o0 (m : Nat) (vs : List Vr) (K : Cont (List DV × List (List D))) : Rs := la63o0 tu52 tu53 (vI vs 0) (vI vs 1) (vI vs 2) (vI vs 3) (vS vs 4) (vL vs 5) (vL vs 6) (vI vs 7) (vB vs 8) (vI vs 13) (vI vs 14) (vI vs 15) (vI vs 16) (vS vs 17) (vL vs 18) (vL vs 19) (vI vs 20) (vI vs 21) (vI vs 22) (vI vs 23) (vS vs 24) (fun n99 b100 b101 b102 n103 n104 n105 n106 s107 n108 n109 n110 n111 s112 l113 => K .ret (fillS X63o0e1 [.i (vI vs 0), .i (vI vs 1), .i (vI vs 2), .i (vI vs 3), .s (vS vs 4), .l (vL vs 5), .l (vL vs 6), .i (vI vs 7), .b (false), .i (n99), .b (b100), .b (b101), .b (b102), .i (vI vs 13), .i (vI vs 14), .i (vI vs 15), .i (vI vs 16), .s (vS vs 17), .l (vL vs 18), .l (vL vs 19), .i (n103), .i (n104), .i (n105), .i (n106), .s (s107), .i (n103), .i (n104), .i (n105), .i (n106), .s (s107), .i (n108), .i (n109), .i (n110), .i (n111), .s (s112), .l (l113)])) (fun n114 v115 b116 v117 n118 n119 n120 n121 s122 l123 => K (.exit 0) (fillS X63o0e2 [.i (vI vs 0), .i (vI vs 1), .i (vI vs 2), .i (vI vs 3), .s (vS vs 4), .l (vL vs 5), .l (vL vs 6), .i (vI vs 7), .b (vB vs 8), .i (n114), .v (v115), .b (b116), .v (v117), .i (vI vs 13), .i (vI vs 14), .i (vI vs 15), .i (vI vs 16), .s (vS vs 17), .l (vL vs 18), .l (vL vs 19), .i (vI vs 20), .i (vI vs 21), .i (vI vs 22), .i (vI vs 23), .s (vS vs 24), .i (n118), .i (n119), .i (n120), .i (n121), .s (s122), .l (l123)])) m (vI vs 9) (vV vs 10) (vV vs 11) (vV vs 12) (vI vs 25) (vI vs 26) (vI vs 27) (vI vs 28) (vS vs 29) (vL vs 30)
def ST63 : List (Nat × (St → Cont (List DV × List (List D)) → Rs)) := [(0, sumT T63o0 (L63o0 KK))]
noncomputable def b63o0 : Code := match nodeAt c63 0 with | some (.loop a) => a | _ => .skip
theorem q63o0 : ∀ m vs K, L63o0 (m + 1) vs K = denK C63 (lkS ST63) b63o0 1 (fillS T63o0 vs) (loopK T63o0 (L63o0 m) K) := fun m vs K => by kernel_rfl
theorem o63o0 : SumOk C63 KK (sumT T63o0 (L63o0 KK)) (.loop b63o0) := loop_ok T63o0 L63o0 (sums_of (t := ST63) ⟨fun _ _ h => absurd h (by decide), trivial⟩) (fun _ _ => rfl) q63o0
theorem r63 : ∀ vs, tw63 vs = bodyK C63 (lkS ST63) Try.f63 (sig 63) c63 (fillAs A63 0 vs) := fun vs => by kernel_rfl
theorem ok63 : ∀ xs q, opt (th63 xs) = some q → evalBody Try.prog sig (Gd G dep (dep 63)) KK 63 xs = some q := fun xs q h => body_ok Try.func63 (c := c63) rfl A63 tw63 (sums_of (C := C63) (t := ST63) ⟨sum_in (c' := .loop b63o0) (by kernel_rfl) (o63o0), trivial⟩) r63 (by rw [← tpw63]; exact opt_gOf h)
noncomputable def C22 : Ctx := ⟨Try.prog, sig, Gd G dep (dep 22), (sig 22).keep, (sig 22).ord⟩
noncomputable def c22 : Code := Try.f22.body.getD .skip
def ST22 : List (Nat × (St → Cont (List DV × List (List D)) → Rs)) := []
theorem r22 : ∀ vs, tw22 vs = bodyK C22 (lkS ST22) Try.f22 (sig 22) c22 (fillAs A22 0 vs) := fun vs => by kernel_rfl
theorem ok22 : ∀ xs q, opt (th22 xs) = some q → evalBody Try.prog sig (Gd G dep (dep 22)) KK 22 xs = some q := fun xs q h => body_ok Try.func22 (c := c22) rfl A22 tw22 (sums_of (C := C22) (t := ST22) trivial) r22 (by rw [← tpw22]; exact opt_gOf h)
noncomputable def C70 : Ctx := ⟨Try.prog, sig, Gd G dep (dep 70), (sig 70).keep, (sig 70).ord⟩
noncomputable def c70 : Code := Try.f70.body.getD .skip
def ST70 : List (Nat × (St → Cont (List DV × List (List D)) → Rs)) := []
theorem r70 : ∀ vs, tw70 vs = bodyK C70 (lkS ST70) Try.f70 (sig 70) c70 (fillAs A70 0 vs) := fun vs => by kernel_rfl
theorem ok70 : ∀ xs q, opt (th70 xs) = some q → evalBody Try.prog sig (Gd G dep (dep 70)) KK 70 xs = some q := fun xs q h => body_ok Try.func70 (c := c70) rfl A70 tw70 (sums_of (C := C70) (t := ST70) trivial) r70 (by rw [← tpw70]; exact opt_gOf h)
noncomputable def C69 : Ctx := ⟨Try.prog, sig, Gd G dep (dep 69), (sig 69).keep, (sig 69).ord⟩
noncomputable def c69 : Code := Try.f69.body.getD .skip
def T69o0 : TSt := ⟨[.any, .d (.l), .d (.i .i64), .ptr 192 0, .ptr 384 0, .d (.i .i64), .ptr 512 0, .d (.i .i64), .undef, .any, .any, .any, .any], [(192, .box [.d (.i .i64), .d (.i .i64), .d (.i .i64), .d (.i .i64), .d (.s), .own 12294, .own 12295]), (384, .box [.d (.i .i64), .d (.i .i64), .d (.i .i64), .d (.i .i64), .d (.s), .nils, .nils]), (512, .box [.d (.i .i64), .d (.i .i64), .d (.i .i64), .d (.i .i64), .d (.s), .own 32774]), (12294, .row 90 2), (12295, .row 38 5), (32774, .row 90 2)]⟩
def X69o0e1 : TSt := ⟨[.any, .d (.l), .d (.i .i64), .ptr 192 0, .ptr 384 0, .d (.i .i64), .ptr 512 0, .d (.i .i64), .undef, .any, .d (.b), .d (.b), .any], [(192, .box [.d (.i .i64), .d (.i .i64), .d (.i .i64), .d (.i .i64), .d (.s), .own 12294, .own 12295]), (384, .box [.d (.i .i64), .d (.i .i64), .d (.i .i64), .d (.i .i64), .d (.s), .own 12294, .own 12295]), (512, .box [.d (.i .i64), .d (.i .i64), .d (.i .i64), .d (.i .i64), .d (.s), .own 32774]), (12294, .row 90 2), (12295, .row 38 5), (32774, .row 90 2)]⟩
def X69o0e2 : TSt := ⟨[.any, .d (.l), .d (.i .i64), .ptr 192 0, .ptr 384 0, .d (.i .i64), .ptr 512 0, .d (.i .i64), .ptr 704 0, .d (.b), .d (.b), .d (.b), .d (.b)], [(192, .box [.d (.i .i64), .d (.i .i64), .d (.i .i64), .d (.i .i64), .d (.s), .own 12294, .own 12295]), (384, .box [.d (.i .i64), .d (.i .i64), .d (.i .i64), .d (.i .i64), .d (.s), .own 12294, .own 12295]), (512, .box [.d (.i .i64), .d (.i .i64), .d (.i .i64), .d (.i .i64), .d (.s), .undef]), (704, .box [.d (.i .i64), .d (.i .i64), .d (.i .i64), .d (.i .i64), .d (.s), .own 45062]), (12294, .row 90 2), (12295, .row 38 5), (45062, .row 90 2)]⟩
def X69o0e3 : TSt := ⟨[.any, .d (.l), .d (.i .i64), .ptr 192 0, .ptr 384 0, .d (.i .i64), .ptr 512 0, .d (.i .i64), .undef, .any, .d (.b), .any, .any], [(192, .box [.d (.i .i64), .d (.i .i64), .d (.i .i64), .d (.i .i64), .d (.s), .own 12294, .own 12295]), (384, .box [.d (.i .i64), .d (.i .i64), .d (.i .i64), .d (.i .i64), .d (.s), .nils, .nils]), (512, .box [.d (.i .i64), .d (.i .i64), .d (.i .i64), .d (.i .i64), .d (.s), .own 32774]), (12294, .row 90 2), (12295, .row 38 5), (32774, .row 90 2)]⟩
def L69o0 (m : Nat) (vs : List Vr) (K : Cont (List DV × List (List D))) : Rs := la69o0 tu52 tu63 (vL vs 1) (vI vs 2) (vI vs 3) (vI vs 9) (vI vs 10) (vI vs 11) (vI vs 12) (vS vs 13) (vI vs 14) (vI vs 15) (vI vs 16) (vI vs 17) (vS vs 18) (vL vs 24) (fun v91 n92 v93 b94 b95 v96 n97 n98 n99 n100 s101 l102 l103 => K .ret (fillS X69o0e1 [.v (v91), .l (vL vs 1), .i (vI vs 2), .i (n92), .i (n92), .v (v93), .b (b94), .b (b95), .v (v96), .i (vI vs 9), .i (vI vs 10), .i (vI vs 11), .i (vI vs 12), .s (vS vs 13), .i (vI vs 9), .i (vI vs 10), .i (vI vs 11), .i (vI vs 12), .s (vS vs 13), .i (n97), .i (n98), .i (n99), .i (n100), .s (s101), .l (vL vs 24), .l (l102), .l (l103)])) (fun v104 n105 b106 b107 b108 b109 n110 n111 n112 n113 s114 n115 n116 n117 n118 s119 l120 l121 => K .ret (fillS X69o0e2 [.v (v104), .l (vL vs 1), .i (vI vs 2), .i (n105), .i (n105), .b (b106), .b (b107), .b (b108), .b (b109), .i (vI vs 9), .i (vI vs 10), .i (vI vs 11), .i (vI vs 12), .s (vS vs 13), .i (vI vs 9), .i (vI vs 10), .i (vI vs 11), .i (vI vs 12), .s (vS vs 13), .i (n110), .i (n111), .i (n112), .i (n113), .s (s114), .i (n115), .i (n116), .i (n117), .i (n118), .s (s119), .l (vL vs 24), .l (l120), .l (l121)])) (fun v122 n123 v124 b125 v126 v127 n128 n129 n130 n131 s132 l133 l134 => K (.exit 0) (fillS X69o0e3 [.v (v122), .l (vL vs 1), .i (vI vs 2), .i (vI vs 3), .i (n123), .v (v124), .b (b125), .v (v126), .v (v127), .i (vI vs 9), .i (vI vs 10), .i (vI vs 11), .i (vI vs 12), .s (vS vs 13), .i (vI vs 14), .i (vI vs 15), .i (vI vs 16), .i (vI vs 17), .s (vS vs 18), .i (n128), .i (n129), .i (n130), .i (n131), .s (s132), .l (vL vs 24), .l (l133), .l (l134)])) m (vV vs 0) (vI vs 4) (vV vs 5) (vV vs 6) (vV vs 7) (vV vs 8) (vI vs 19) (vI vs 20) (vI vs 21) (vI vs 22) (vS vs 23) (vL vs 25) (vL vs 26)
def ST69 : List (Nat × (St → Cont (List DV × List (List D)) → Rs)) := [(0, sumT T69o0 (L69o0 KK))]
noncomputable def b69o0 : Code := match nodeAt c69 0 with | some (.loop a) => a | _ => .skip
theorem q69o0 : ∀ m vs K, L69o0 (m + 1) vs K = denK C69 (lkS ST69) b69o0 1 (fillS T69o0 vs) (loopK T69o0 (L69o0 m) K) := fun m vs K => by kernel_rfl
theorem o69o0 : SumOk C69 KK (sumT T69o0 (L69o0 KK)) (.loop b69o0) := loop_ok T69o0 L69o0 (sums_of (t := ST69) ⟨fun _ _ h => absurd h (by decide), trivial⟩) (fun _ _ => rfl) q69o0
theorem r69 : ∀ vs, tw69 vs = bodyK C69 (lkS ST69) Try.f69 (sig 69) c69 (fillAs A69 0 vs) := fun vs => by kernel_rfl
theorem ok69 : ∀ xs q, opt (th69 xs) = some q → evalBody Try.prog sig (Gd G dep (dep 69)) KK 69 xs = some q := fun xs q h => body_ok Try.func69 (c := c69) rfl A69 tw69 (sums_of (C := C69) (t := ST69) ⟨sum_in (c' := .loop b69o0) (by kernel_rfl) (o69o0), trivial⟩) r69 (by rw [← tpw69]; exact opt_gOf h)
noncomputable def C40 : Ctx := ⟨Try.prog, sig, Gd G dep (dep 40), (sig 40).keep, (sig 40).ord⟩
noncomputable def c40 : Code := Try.f40.body.getD .skip
def ST40 : List (Nat × (St → Cont (List DV × List (List D)) → Rs)) := []
theorem r40 : ∀ vs, tw40 vs = bodyK C40 (lkS ST40) Try.f40 (sig 40) c40 (fillAs A40 0 vs) := fun vs => by kernel_rfl
theorem ok40 : ∀ xs q, opt (th40 xs) = some q → evalBody Try.prog sig (Gd G dep (dep 40)) KK 40 xs = some q := fun xs q h => body_ok Try.func40 (c := c40) rfl A40 tw40 (sums_of (C := C40) (t := ST40) trivial) r40 (by rw [← tpw40]; exact opt_gOf h)
noncomputable def C76 : Ctx := ⟨Try.prog, sig, Gd G dep (dep 76), (sig 76).keep, (sig 76).ord⟩
noncomputable def c76 : Code := Try.f76.body.getD .skip
def ST76 : List (Nat × (St → Cont (List DV × List (List D)) → Rs)) := []
theorem r76 : ∀ vs, tw76 vs = bodyK C76 (lkS ST76) Try.f76 (sig 76) c76 (fillAs A76 0 vs) := fun vs => by kernel_rfl
theorem ok76 : ∀ xs q, opt (th76 xs) = some q → evalBody Try.prog sig (Gd G dep (dep 76)) KK 76 xs = some q := fun xs q h => body_ok Try.func76 (c := c76) rfl A76 tw76 (sums_of (C := C76) (t := ST76) trivial) r76 (by rw [← tpw76]; exact opt_gOf h)
noncomputable def C56 : Ctx := ⟨Try.prog, sig, Gd G dep (dep 56), (sig 56).keep, (sig 56).ord⟩
noncomputable def c56 : Code := Try.f56.body.getD .skip
def T56o2 : TSt := ⟨[.agg [.d (.i .i64), .d (.i .i64), .d (.i .i64), .d (.i .i64), .d (.s), .d (.l)], .ptr 64 0, .d (.b), .d (.i .i64), .undef, .d (.b), .d (.b), .d (.l), .d (.i .i64), .d (.i .i64), .any, .any], [(64, .box [.d (.i .i64), .d (.i .i64), .d (.i .i64), .d (.i .i64), .d (.s), .d (.l)])]⟩
def X56o2e1 : TSt := ⟨[.agg [.d (.i .i64), .d (.i .i64), .d (.i .i64), .d (.i .i64), .d (.s), .d (.l)], .ptr 64 0, .d (.b), .d (.i .i64), .ptr 320 0, .d (.b), .d (.b), .d (.l), .d (.i .i64), .d (.i .i64), .d (.b), .d (.b)], [(64, .box [.d (.i .i64), .d (.i .i64), .d (.i .i64), .d (.i .i64), .d (.s), .d (.l)]), (320, .box [.d (.i .i64), .d (.s)])]⟩
def X56o2e2 : TSt := ⟨[.agg [.d (.i .i64), .d (.i .i64), .d (.i .i64), .d (.i .i64), .d (.s), .d (.l)], .ptr 64 0, .d (.b), .d (.i .i64), .undef, .d (.b), .d (.b), .d (.l), .d (.i .i64), .d (.i .i64), .d (.b), .any], [(64, .box [.d (.i .i64), .d (.i .i64), .d (.i .i64), .d (.i .i64), .d (.s), .d (.l)])]⟩
def L56o2 (m : Nat) (vs : List Vr) (K : Cont (List DV × List (List D))) : Rs := la56o2 tu76 (vI vs 0) (vI vs 1) (vI vs 2) (vI vs 3) (vS vs 4) (vL vs 5) (vB vs 6) (vB vs 8) (vB vs 9) (vL vs 10) (vI vs 11) (vI vs 15) (vI vs 16) (vI vs 17) (vI vs 18) (vS vs 19) (vL vs 20) (fun n68 n69 b70 b71 n72 s73 => K .ret (fillS X56o2e1 [.i (vI vs 0), .i (vI vs 1), .i (vI vs 2), .i (vI vs 3), .s (vS vs 4), .l (vL vs 5), .b (false), .i (n68), .b (vB vs 8), .b (vB vs 9), .l (vL vs 10), .i (vI vs 11), .i (n69), .b (b70), .b (b71), .i (vI vs 15), .i (vI vs 16), .i (vI vs 17), .i (vI vs 18), .s (vS vs 19), .l (vL vs 20), .i (n72), .s (s73)])) (fun n74 n75 b76 v77 => K (.exit 0) (fillS X56o2e2 [.i (vI vs 0), .i (vI vs 1), .i (vI vs 2), .i (vI vs 3), .s (vS vs 4), .l (vL vs 5), .b (vB vs 6), .i (n74), .b (vB vs 8), .b (vB vs 9), .l (vL vs 10), .i (vI vs 11), .i (n75), .b (b76), .v (v77), .i (vI vs 15), .i (vI vs 16), .i (vI vs 17), .i (vI vs 18), .s (vS vs 19), .l (vL vs 20)])) m (vI vs 7) (vI vs 12) (vV vs 13) (vV vs 14)
def ST56 : List (Nat × (St → Cont (List DV × List (List D)) → Rs)) := [(2, sumT T56o2 (L56o2 KK))]
noncomputable def b56o2 : Code := match nodeAt c56 2 with | some (.loop a) => a | _ => .skip
theorem q56o2 : ∀ m vs K, L56o2 (m + 1) vs K = denK C56 (lkS ST56) b56o2 3 (fillS T56o2 vs) (loopK T56o2 (L56o2 m) K) := fun m vs K => by kernel_rfl
theorem o56o2 : SumOk C56 KK (sumT T56o2 (L56o2 KK)) (.loop b56o2) := loop_ok T56o2 L56o2 (sums_of (t := ST56) ⟨fun _ _ h => absurd h (by decide), trivial⟩) (fun _ _ => rfl) q56o2
theorem r56 : ∀ vs, tw56 vs = bodyK C56 (lkS ST56) Try.f56 (sig 56) c56 (fillAs A56 0 vs) := fun vs => by kernel_rfl
theorem ok56 : ∀ xs q, opt (th56 xs) = some q → evalBody Try.prog sig (Gd G dep (dep 56)) KK 56 xs = some q := fun xs q h => body_ok Try.func56 (c := c56) rfl A56 tw56 (sums_of (C := C56) (t := ST56) ⟨sum_in (c' := .loop b56o2) (by kernel_rfl) (o56o2), trivial⟩) r56 (by rw [← tpw56]; exact opt_gOf h)
noncomputable def C57 : Ctx := ⟨Try.prog, sig, Gd G dep (dep 57), (sig 57).keep, (sig 57).ord⟩
noncomputable def c57 : Code := Try.f57.body.getD .skip
def ST57 : List (Nat × (St → Cont (List DV × List (List D)) → Rs)) := []
theorem r57 : ∀ vs, tw57 vs = bodyK C57 (lkS ST57) Try.f57 (sig 57) c57 (fillAs A57 0 vs) := fun vs => by kernel_rfl
theorem ok57 : ∀ xs q, opt (th57 xs) = some q → evalBody Try.prog sig (Gd G dep (dep 57)) KK 57 xs = some q := fun xs q h => body_ok Try.func57 (c := c57) rfl A57 tw57 (sums_of (C := C57) (t := ST57) trivial) r57 (by rw [← tpw57]; exact opt_gOf h)
noncomputable def C45 : Ctx := ⟨Try.prog, sig, Gd G dep (dep 45), (sig 45).keep, (sig 45).ord⟩
noncomputable def c45 : Code := Try.f45.body.getD .skip
def ST45 : List (Nat × (St → Cont (List DV × List (List D)) → Rs)) := []
theorem r45 : ∀ vs, tw45 vs = bodyK C45 (lkS ST45) Try.f45 (sig 45) c45 (fillAs A45 0 vs) := fun vs => by kernel_rfl
theorem ok45 : ∀ xs q, opt (th45 xs) = some q → evalBody Try.prog sig (Gd G dep (dep 45)) KK 45 xs = some q := fun xs q h => body_ok Try.func45 (c := c45) rfl A45 tw45 (sums_of (C := C45) (t := ST45) trivial) r45 (by rw [← tpw45]; exact opt_gOf h)
noncomputable def C95 : Ctx := ⟨Try.prog, sig, Gd G dep (dep 95), (sig 95).keep, (sig 95).ord⟩
noncomputable def c95 : Code := Try.f95.body.getD .skip
def ST95 : List (Nat × (St → Cont (List DV × List (List D)) → Rs)) := []
theorem r95 : ∀ vs, tw95 vs = bodyK C95 (lkS ST95) Try.f95 (sig 95) c95 (fillAs A95 0 vs) := fun vs => by kernel_rfl
theorem ok95 : ∀ xs q, opt (th95 xs) = some q → evalBody Try.prog sig (Gd G dep (dep 95)) KK 95 xs = some q := fun xs q h => body_ok Try.func95 (c := c95) rfl A95 tw95 (sums_of (C := C95) (t := ST95) trivial) r95 (by rw [← tpw95]; exact opt_gOf h)
noncomputable def C88 : Ctx := ⟨Try.prog, sig, Gd G dep (dep 88), (sig 88).keep, (sig 88).ord⟩
noncomputable def c88 : Code := Try.f88.body.getD .skip
def ST88 : List (Nat × (St → Cont (List DV × List (List D)) → Rs)) := []
theorem r88 : ∀ vs, tw88 vs = bodyK C88 (lkS ST88) Try.f88 (sig 88) c88 (fillAs A88 0 vs) := fun vs => by kernel_rfl
theorem ok88 : ∀ xs q, opt (th88 xs) = some q → evalBody Try.prog sig (Gd G dep (dep 88)) KK 88 xs = some q := fun xs q h => body_ok Try.func88 (c := c88) rfl A88 tw88 (sums_of (C := C88) (t := ST88) trivial) r88 (by rw [← tpw88]; exact opt_gOf h)
noncomputable def C58 : Ctx := ⟨Try.prog, sig, Gd G dep (dep 58), (sig 58).keep, (sig 58).ord⟩
noncomputable def c58 : Code := Try.f58.body.getD .skip
def ST58 : List (Nat × (St → Cont (List DV × List (List D)) → Rs)) := []
theorem r58 : ∀ vs, tw58 vs = bodyK C58 (lkS ST58) Try.f58 (sig 58) c58 (fillAs A58 0 vs) := fun vs => by kernel_rfl
theorem ok58 : ∀ xs q, opt (th58 xs) = some q → evalBody Try.prog sig (Gd G dep (dep 58)) KK 58 xs = some q := fun xs q h => body_ok Try.func58 (c := c58) rfl A58 tw58 (sums_of (C := C58) (t := ST58) trivial) r58 (by rw [← tpw58]; exact opt_gOf h)
noncomputable def C64 : Ctx := ⟨Try.prog, sig, Gd G dep (dep 64), (sig 64).keep, (sig 64).ord⟩
noncomputable def c64 : Code := Try.f64.body.getD .skip
def T64o1 : TSt := ⟨[.pv [.i .i64, .i .i64, .i .i64, .i .i64, .s, .l, .l] 0, .ptr 128 0, .d (.b), .ptr 256 0, .undef, .d (.b), .d (.l), .d (.i .i64), .d (.i .i64), .any, .any], [(128, .box [.d (.i .i64), .d (.i .i64), .d (.i .i64), .d (.i .i64), .d (.s), .nils]), (256, .box [.d (.i .i64), .d (.i .i64), .d (.i .i64), .d (.i .i64), .d (.s), .own 16390]), (16390, .row 90 2)]⟩
def X64o1e1 : TSt := ⟨[.pv [.i .i64, .i .i64, .i .i64, .i .i64, .s, .l, .l] 0, .ptr 128 0, .d (.b), .ptr 256 0, .ptr 384 0, .d (.b), .d (.l), .d (.i .i64), .d (.i .i64), .d (.b), .d (.b)], [(128, .box [.d (.i .i64), .d (.i .i64), .d (.i .i64), .d (.i .i64), .d (.s), .nils]), (256, .box [.d (.i .i64), .d (.i .i64), .d (.i .i64), .d (.i .i64), .d (.s), .own 16390]), (384, .box [.d (.i .i64), .d (.i .i64), .d (.i .i64), .d (.i .i64), .d (.s)]), (16390, .row 90 2)]⟩
def X64o1e2 : TSt := ⟨[.pv [.i .i64, .i .i64, .i .i64, .i .i64, .s, .l, .l] 0, .ptr 128 0, .d (.b), .ptr 256 0, .undef, .d (.b), .d (.l), .d (.i .i64), .d (.i .i64), .d (.b), .any], [(128, .box [.d (.i .i64), .d (.i .i64), .d (.i .i64), .d (.i .i64), .d (.s), .nils]), (256, .box [.d (.i .i64), .d (.i .i64), .d (.i .i64), .d (.i .i64), .d (.s), .own 16390]), (16390, .row 90 2)]⟩
def L64o1 (m : Nat) (vs : List Vr) (K : Cont (List DV × List (List D))) : Rs := la64o1 tu56 tu57 tu58 (vI vs 0) (vI vs 1) (vI vs 2) (vI vs 3) (vS vs 4) (vL vs 5) (vL vs 6) (vB vs 7) (vB vs 8) (vL vs 9) (vI vs 10) (vI vs 14) (vI vs 15) (vI vs 16) (vI vs 17) (vS vs 18) (fun n81 b82 b83 s84 n85 n86 n87 n88 s89 n90 n91 n92 n93 s94 l95 => K .ret (fillS X64o1e1 [.i (vI vs 0), .i (vI vs 1), .i (vI vs 2), .i (vI vs 3), .s (vS vs 4), .l (vL vs 5), .l (vL vs 6), .b (false), .b (vB vs 8), .l (vL vs 9), .i (vI vs 10), .i (n81), .b (b82), .b (b83), .i ((0 : Int)), .i ((0 : Int)), .i ((0 : Int)), .i ((0 : Int)), .s (s84), .i (n85), .i (n86), .i (n87), .i (n88), .s (s89), .i (n90), .i (n91), .i (n92), .i (n93), .s (s94), .l (l95)])) (fun n96 b97 v98 n99 n100 n101 n102 s103 l104 => K (.exit 0) (fillS X64o1e2 [.i (vI vs 0), .i (vI vs 1), .i (vI vs 2), .i (vI vs 3), .s (vS vs 4), .l (vL vs 5), .l (vL vs 6), .b (vB vs 7), .b (vB vs 8), .l (vL vs 9), .i (vI vs 10), .i (n96), .b (b97), .v (v98), .i (vI vs 14), .i (vI vs 15), .i (vI vs 16), .i (vI vs 17), .s (vS vs 18), .i (n99), .i (n100), .i (n101), .i (n102), .s (s103), .l (l104)])) m (vI vs 11) (vV vs 12) (vV vs 13) (vI vs 19) (vI vs 20) (vI vs 21) (vI vs 22) (vS vs 23) (vL vs 24)
def ST64 : List (Nat × (St → Cont (List DV × List (List D)) → Rs)) := [(1, sumT T64o1 (L64o1 KK))]
noncomputable def b64o1 : Code := match nodeAt c64 1 with | some (.loop a) => a | _ => .skip
theorem q64o1 : ∀ m vs K, L64o1 (m + 1) vs K = denK C64 (lkS ST64) b64o1 2 (fillS T64o1 vs) (loopK T64o1 (L64o1 m) K) := fun m vs K => by kernel_rfl
theorem o64o1 : SumOk C64 KK (sumT T64o1 (L64o1 KK)) (.loop b64o1) := loop_ok T64o1 L64o1 (sums_of (t := ST64) ⟨fun _ _ h => absurd h (by decide), trivial⟩) (fun _ _ => rfl) q64o1
theorem r64 : ∀ vs, tw64 vs = bodyK C64 (lkS ST64) Try.f64 (sig 64) c64 (fillAs A64 0 vs) := fun vs => by kernel_rfl
theorem ok64 : ∀ xs q, opt (th64 xs) = some q → evalBody Try.prog sig (Gd G dep (dep 64)) KK 64 xs = some q := fun xs q h => body_ok Try.func64 (c := c64) rfl A64 tw64 (sums_of (C := C64) (t := ST64) ⟨sum_in (c' := .loop b64o1) (by kernel_rfl) (o64o1), trivial⟩) r64 (by rw [← tpw64]; exact opt_gOf h)
noncomputable def C71 : Ctx := ⟨Try.prog, sig, Gd G dep (dep 71), (sig 71).keep, (sig 71).ord⟩
noncomputable def c71 : Code := Try.f71.body.getD .skip
def ST71 : List (Nat × (St → Cont (List DV × List (List D)) → Rs)) := []
theorem r71 : ∀ vs, tw71 vs = bodyK C71 (lkS ST71) Try.f71 (sig 71) c71 (fillAs A71 0 vs) := fun vs => by kernel_rfl
theorem ok71 : ∀ xs q, opt (th71 xs) = some q → evalBody Try.prog sig (Gd G dep (dep 71)) KK 71 xs = some q := fun xs q h => body_ok Try.func71 (c := c71) rfl A71 tw71 (sums_of (C := C71) (t := ST71) trivial) r71 (by rw [← tpw71]; exact opt_gOf h)
noncomputable def C42 : Ctx := ⟨Try.prog, sig, Gd G dep (dep 42), (sig 42).keep, (sig 42).ord⟩
noncomputable def c42 : Code := Try.f42.body.getD .skip
def T42o1 : TSt := ⟨[.agg [.d (.i .i64), .d (.i .i64), .d (.i .i64), .d (.i .i64), .d (.s), .d (.l), .d (.l)], .d (.l), .d (.i .i64), .ptr 192 0, .ptr 384 0, .d (.i .i64), .ptr 512 0, .d (.b), .ptr 640 0, .d (.i .i64), .undef, .d (.b), .d (.l), .d (.i .i64), .d (.i .i64), .any, .any], [(192, .box [.d (.i .i64), .d (.i .i64), .d (.i .i64), .d (.i .i64), .d (.s), .d (.l), .d (.l)]), (384, .box [.d (.i .i64), .d (.i .i64), .d (.i .i64), .d (.i .i64), .d (.s), .nils, .nils]), (512, .box [.d (.i .i64), .d (.i .i64), .d (.i .i64), .d (.i .i64), .d (.s), .own 32774]), (640, .box [.d (.i .i64), .d (.i .i64), .d (.i .i64), .d (.i .i64), .d (.s), .own 40966, .own 40967]), (32774, .row 90 2), (40966, .row 90 2), (40967, .row 38 5)]⟩
def X42o1e1 : TSt := ⟨[.agg [.d (.i .i64), .d (.i .i64), .d (.i .i64), .d (.i .i64), .d (.s), .d (.l), .d (.l)], .d (.l), .d (.i .i64), .ptr 192 0, .ptr 384 0, .d (.i .i64), .ptr 512 0, .d (.b), .ptr 640 0, .d (.i .i64), .undef, .d (.b), .d (.l), .d (.i .i64), .d (.i .i64), .d (.b), .d (.b)], [(192, .box [.d (.i .i64), .d (.i .i64), .d (.i .i64), .d (.i .i64), .d (.s), .d (.l), .d (.l)]), (384, .box [.d (.i .i64), .d (.i .i64), .d (.i .i64), .d (.i .i64), .d (.s), .nils, .nils]), (512, .box [.d (.i .i64), .d (.i .i64), .d (.i .i64), .d (.i .i64), .d (.s), .own 32774]), (640, .box [.d (.i .i64), .d (.i .i64), .d (.i .i64), .d (.i .i64), .d (.s), .own 40966, .own 40967]), (32774, .row 90 2), (40966, .row 90 2), (40967, .row 38 5)]⟩
def X42o1e2 : TSt := ⟨[.agg [.d (.i .i64), .d (.i .i64), .d (.i .i64), .d (.i .i64), .d (.s), .d (.l), .d (.l)], .d (.l), .d (.i .i64), .ptr 192 0, .ptr 384 0, .d (.i .i64), .ptr 512 0, .d (.b), .ptr 640 0, .d (.i .i64), .undef, .d (.b), .d (.l), .d (.i .i64), .d (.i .i64), .d (.b), .any], [(192, .box [.d (.i .i64), .d (.i .i64), .d (.i .i64), .d (.i .i64), .d (.s), .d (.l), .d (.l)]), (384, .box [.d (.i .i64), .d (.i .i64), .d (.i .i64), .d (.i .i64), .d (.s), .nils, .nils]), (512, .box [.d (.i .i64), .d (.i .i64), .d (.i .i64), .d (.i .i64), .d (.s), .own 32774]), (640, .box [.d (.i .i64), .d (.i .i64), .d (.i .i64), .d (.i .i64), .d (.s), .own 40966, .own 40967]), (32774, .row 90 2), (40966, .row 90 2), (40967, .row 38 5)]⟩
def L42o1 (m : Nat) (vs : List Vr) (K : Cont (List DV × List (List D))) : Rs := la42o1 tu58 tu64 tu71 (vI vs 0) (vI vs 1) (vI vs 2) (vI vs 3) (vS vs 4) (vL vs 5) (vL vs 6) (vL vs 7) (vI vs 8) (vI vs 9) (vB vs 10) (vB vs 12) (vL vs 13) (vI vs 14) (vI vs 18) (vI vs 19) (vI vs 20) (vI vs 21) (vS vs 22) (vL vs 23) (vL vs 24) (vI vs 25) (vI vs 26) (vI vs 27) (vI vs 28) (vS vs 29) (vI vs 35) (vI vs 36) (vI vs 37) (vI vs 38) (vS vs 39) (vL vs 41) (fun n137 n138 b139 b140 n141 n142 n143 n144 s145 l146 l147 => K (.exit 0) (fillS X42o1e1 [.i (vI vs 0), .i (vI vs 1), .i (vI vs 2), .i (vI vs 3), .s (vS vs 4), .l (vL vs 5), .l (vL vs 6), .l (vL vs 7), .i (vI vs 8), .i (vI vs 9), .b (vB vs 10), .i (n137), .b (vB vs 12), .l (vL vs 13), .i (vI vs 14), .i (n138), .b (b139), .b (b140), .i (vI vs 18), .i (vI vs 19), .i (vI vs 20), .i (vI vs 21), .s (vS vs 22), .l (vL vs 23), .l (vL vs 24), .i (vI vs 25), .i (vI vs 26), .i (vI vs 27), .i (vI vs 28), .s (vS vs 29), .i (n141), .i (n142), .i (n143), .i (n144), .s (s145), .i (vI vs 35), .i (vI vs 36), .i (vI vs 37), .i (vI vs 38), .s (vS vs 39), .l (l146), .l (vL vs 41), .l (l147)])) (fun n148 n149 b150 v151 n152 n153 n154 n155 s156 l157 l158 => K (.exit 0) (fillS X42o1e2 [.i (vI vs 0), .i (vI vs 1), .i (vI vs 2), .i (vI vs 3), .s (vS vs 4), .l (vL vs 5), .l (vL vs 6), .l (vL vs 7), .i (vI vs 8), .i (vI vs 9), .b (vB vs 10), .i (n148), .b (vB vs 12), .l (vL vs 13), .i (vI vs 14), .i (n149), .b (b150), .v (v151), .i (vI vs 18), .i (vI vs 19), .i (vI vs 20), .i (vI vs 21), .s (vS vs 22), .l (vL vs 23), .l (vL vs 24), .i (vI vs 25), .i (vI vs 26), .i (vI vs 27), .i (vI vs 28), .s (vS vs 29), .i (n152), .i (n153), .i (n154), .i (n155), .s (s156), .i (vI vs 35), .i (vI vs 36), .i (vI vs 37), .i (vI vs 38), .s (vS vs 39), .l (l157), .l (vL vs 41), .l (l158)])) m (vI vs 11) (vI vs 15) (vV vs 16) (vV vs 17) (vI vs 30) (vI vs 31) (vI vs 32) (vI vs 33) (vS vs 34) (vL vs 40) (vL vs 42)
def ST42 : List (Nat × (St → Cont (List DV × List (List D)) → Rs)) := [(1, sumT T42o1 (L42o1 KK))]
noncomputable def b42o1 : Code := match nodeAt c42 1 with | some (.loop a) => a | _ => .skip
theorem q42o1 : ∀ m vs K, L42o1 (m + 1) vs K = denK C42 (lkS ST42) b42o1 2 (fillS T42o1 vs) (loopK T42o1 (L42o1 m) K) := fun m vs K => by kernel_rfl
theorem o42o1 : SumOk C42 KK (sumT T42o1 (L42o1 KK)) (.loop b42o1) := loop_ok T42o1 L42o1 (sums_of (t := ST42) ⟨fun _ _ h => absurd h (by decide), trivial⟩) (fun _ _ => rfl) q42o1
theorem r42 : ∀ vs, tw42 vs = bodyK C42 (lkS ST42) Try.f42 (sig 42) c42 (fillAs A42 0 vs) := fun vs => by kernel_rfl
theorem ok42 : ∀ xs q, opt (th42 xs) = some q → evalBody Try.prog sig (Gd G dep (dep 42)) KK 42 xs = some q := fun xs q h => body_ok Try.func42 (c := c42) rfl A42 tw42 (sums_of (C := C42) (t := ST42) ⟨sum_in (c' := .loop b42o1) (by kernel_rfl) (o42o1), trivial⟩) r42 (by rw [← tpw42]; exact opt_gOf h)
noncomputable def C59 : Ctx := ⟨Try.prog, sig, Gd G dep (dep 59), (sig 59).keep, (sig 59).ord⟩
noncomputable def c59 : Code := Try.f59.body.getD .skip
def ST59 : List (Nat × (St → Cont (List DV × List (List D)) → Rs)) := []
theorem r59 : ∀ vs, tw59 vs = bodyK C59 (lkS ST59) Try.f59 (sig 59) c59 (fillAs A59 0 vs) := fun vs => by kernel_rfl
theorem ok59 : ∀ xs q, opt (th59 xs) = some q → evalBody Try.prog sig (Gd G dep (dep 59)) KK 59 xs = some q := fun xs q h => body_ok Try.func59 (c := c59) rfl A59 tw59 (sums_of (C := C59) (t := ST59) trivial) r59 (by rw [← tpw59]; exact opt_gOf h)
noncomputable def C89 : Ctx := ⟨Try.prog, sig, Gd G dep (dep 89), (sig 89).keep, (sig 89).ord⟩
noncomputable def c89 : Code := Try.f89.body.getD .skip
def ST89 : List (Nat × (St → Cont (List DV × List (List D)) → Rs)) := []
theorem r89 : ∀ vs, tw89 vs = bodyK C89 (lkS ST89) Try.f89 (sig 89) c89 (fillAs A89 0 vs) := fun vs => by kernel_rfl
theorem ok89 : ∀ xs q, opt (th89 xs) = some q → evalBody Try.prog sig (Gd G dep (dep 89)) KK 89 xs = some q := fun xs q h => body_ok Try.func89 (c := c89) rfl A89 tw89 (sums_of (C := C89) (t := ST89) trivial) r89 (by rw [← tpw89]; exact opt_gOf h)
noncomputable def C60 : Ctx := ⟨Try.prog, sig, Gd G dep (dep 60), (sig 60).keep, (sig 60).ord⟩
noncomputable def c60 : Code := Try.f60.body.getD .skip
def T60o1 : TSt := ⟨[.d (.l), .d (.l), .d (.b), .d (.i .i64), .d (.b), .any, .any], []⟩
def X60o1e1 : TSt := ⟨[.d (.l), .d (.l), .d (.b), .d (.i .i64), .d (.b), .d (.b), .d (.b)], []⟩
def X60o1e2 : TSt := ⟨[.d (.l), .d (.l), .d (.b), .d (.i .i64), .d (.b), .d (.b), .any], []⟩
def L60o1 (m : Nat) (vs : List Vr) (K : Cont (List DV × List (List D))) : Rs := la60o1 tu89 (vL vs 0) (vL vs 1) (vB vs 2) (vB vs 4) (fun n22 b23 b24 => K .ret (fillS X60o1e1 [.l (vL vs 0), .l (vL vs 1), .b (false), .i (n22), .b (vB vs 4), .b (b23), .b (b24)])) (fun n25 b26 v27 => K (.exit 0) (fillS X60o1e2 [.l (vL vs 0), .l (vL vs 1), .b (vB vs 2), .i (n25), .b (vB vs 4), .b (b26), .v (v27)])) m (vI vs 3) (vV vs 5) (vV vs 6)
def ST60 : List (Nat × (St → Cont (List DV × List (List D)) → Rs)) := [(1, sumT T60o1 (L60o1 KK))]
noncomputable def b60o1 : Code := match nodeAt c60 1 with | some (.loop a) => a | _ => .skip
theorem q60o1 : ∀ m vs K, L60o1 (m + 1) vs K = denK C60 (lkS ST60) b60o1 2 (fillS T60o1 vs) (loopK T60o1 (L60o1 m) K) := fun m vs K => by kernel_rfl
theorem o60o1 : SumOk C60 KK (sumT T60o1 (L60o1 KK)) (.loop b60o1) := loop_ok T60o1 L60o1 (sums_of (t := ST60) ⟨fun _ _ h => absurd h (by decide), trivial⟩) (fun _ _ => rfl) q60o1
theorem r60 : ∀ vs, tw60 vs = bodyK C60 (lkS ST60) Try.f60 (sig 60) c60 (fillAs A60 0 vs) := fun vs => by kernel_rfl
theorem ok60 : ∀ xs q, opt (th60 xs) = some q → evalBody Try.prog sig (Gd G dep (dep 60)) KK 60 xs = some q := fun xs q h => body_ok Try.func60 (c := c60) rfl A60 tw60 (sums_of (C := C60) (t := ST60) ⟨sum_in (c' := .loop b60o1) (by kernel_rfl) (o60o1), trivial⟩) r60 (by rw [← tpw60]; exact opt_gOf h)
noncomputable def C18 : Ctx := ⟨Try.prog, sig, Gd G dep (dep 18), (sig 18).keep, (sig 18).ord⟩
noncomputable def c18 : Code := Try.f18.body.getD .skip
def ST18 : List (Nat × (St → Cont (List DV × List (List D)) → Rs)) := []
theorem r18 : ∀ vs, tw18 vs = bodyK C18 (lkS ST18) Try.f18 (sig 18) c18 (fillAs A18 0 vs) := fun vs => by kernel_rfl
theorem ok18 : ∀ xs q, opt (th18 xs) = some q → evalBody Try.prog sig (Gd G dep (dep 18)) KK 18 xs = some q := fun xs q h => body_ok Try.func18 (c := c18) rfl A18 tw18 (sums_of (C := C18) (t := ST18) trivial) r18 (by rw [← tpw18]; exact opt_gOf h)
noncomputable def C67 : Ctx := ⟨Try.prog, sig, Gd G dep (dep 67), (sig 67).keep, (sig 67).ord⟩
noncomputable def c67 : Code := Try.f67.body.getD .skip
def ST67 : List (Nat × (St → Cont (List DV × List (List D)) → Rs)) := []
theorem r67 : ∀ vs, tw67 vs = bodyK C67 (lkS ST67) Try.f67 (sig 67) c67 (fillAs A67 0 vs) := fun vs => by kernel_rfl
theorem ok67 : ∀ xs q, opt (th67 xs) = some q → evalBody Try.prog sig (Gd G dep (dep 67)) KK 67 xs = some q := fun xs q h => body_ok Try.func67 (c := c67) rfl A67 tw67 (sums_of (C := C67) (t := ST67) trivial) r67 (by rw [← tpw67]; exact opt_gOf h)
noncomputable def C28 : Ctx := ⟨Try.prog, sig, Gd G dep (dep 28), (sig 28).keep, (sig 28).ord⟩
noncomputable def c28 : Code := Try.f28.body.getD .skip
def T28o1 : TSt := ⟨[.d (.l), .d (.l), .d (.b), .d (.i .i64), .d (.b), .any, .any], []⟩
def X28o1e1 : TSt := ⟨[.d (.l), .d (.l), .d (.b), .d (.i .i64), .d (.b), .d (.b), .d (.b)], []⟩
def X28o1e2 : TSt := ⟨[.d (.l), .d (.l), .d (.b), .d (.i .i64), .d (.b), .d (.b), .any], []⟩
def L28o1 (m : Nat) (vs : List Vr) (K : Cont (List DV × List (List D))) : Rs := la28o1 tu67 (vL vs 0) (vL vs 1) (vB vs 2) (vB vs 4) (fun n22 b23 b24 => K .ret (fillS X28o1e1 [.l (vL vs 0), .l (vL vs 1), .b (false), .i (n22), .b (vB vs 4), .b (b23), .b (b24)])) (fun n25 b26 v27 => K (.exit 0) (fillS X28o1e2 [.l (vL vs 0), .l (vL vs 1), .b (vB vs 2), .i (n25), .b (vB vs 4), .b (b26), .v (v27)])) m (vI vs 3) (vV vs 5) (vV vs 6)
def ST28 : List (Nat × (St → Cont (List DV × List (List D)) → Rs)) := [(1, sumT T28o1 (L28o1 KK))]
noncomputable def b28o1 : Code := match nodeAt c28 1 with | some (.loop a) => a | _ => .skip
theorem q28o1 : ∀ m vs K, L28o1 (m + 1) vs K = denK C28 (lkS ST28) b28o1 2 (fillS T28o1 vs) (loopK T28o1 (L28o1 m) K) := fun m vs K => by kernel_rfl
theorem o28o1 : SumOk C28 KK (sumT T28o1 (L28o1 KK)) (.loop b28o1) := loop_ok T28o1 L28o1 (sums_of (t := ST28) ⟨fun _ _ h => absurd h (by decide), trivial⟩) (fun _ _ => rfl) q28o1
theorem r28 : ∀ vs, tw28 vs = bodyK C28 (lkS ST28) Try.f28 (sig 28) c28 (fillAs A28 0 vs) := fun vs => by kernel_rfl
theorem ok28 : ∀ xs q, opt (th28 xs) = some q → evalBody Try.prog sig (Gd G dep (dep 28)) KK 28 xs = some q := fun xs q h => body_ok Try.func28 (c := c28) rfl A28 tw28 (sums_of (C := C28) (t := ST28) ⟨sum_in (c' := .loop b28o1) (by kernel_rfl) (o28o1), trivial⟩) r28 (by rw [← tpw28]; exact opt_gOf h)
noncomputable def C25 : Ctx := ⟨Try.prog, sig, Gd G dep (dep 25), (sig 25).keep, (sig 25).ord⟩
noncomputable def c25 : Code := Try.f25.body.getD .skip
def ST25 : List (Nat × (St → Cont (List DV × List (List D)) → Rs)) := []
theorem r25 : ∀ vs, tw25 vs = bodyK C25 (lkS ST25) Try.f25 (sig 25) c25 (fillAs A25 0 vs) := fun vs => by kernel_rfl
theorem ok25 : ∀ xs q, opt (th25 xs) = some q → evalBody Try.prog sig (Gd G dep (dep 25)) KK 25 xs = some q := fun xs q h => body_ok Try.func25 (c := c25) rfl A25 tw25 (sums_of (C := C25) (t := ST25) trivial) r25 (by rw [← tpw25]; exact opt_gOf h)
noncomputable def C68 : Ctx := ⟨Try.prog, sig, Gd G dep (dep 68), (sig 68).keep, (sig 68).ord⟩
noncomputable def c68 : Code := Try.f68.body.getD .skip
def T68o1 : TSt := ⟨[.d (.i .i64), .d (.s), .d (.s), .d (.b), .any], []⟩
def X68o1e1 : TSt := ⟨[.d (.i .i64), .d (.s), .d (.s), .d (.b), .d (.b)], []⟩
def L68o1 (m : Nat) (vs : List Vr) (K : Cont (List DV × List (List D))) : Rs := l68o1 (vS vs 1) (vB vs 3) (fun n16 s17 b18 => K (.exit 0) (fillS X68o1e1 [.i (n16), .s (vS vs 1), .s (s17), .b (vB vs 3), .b (b18)])) m (vI vs 0) (vS vs 2) (vV vs 4)
def ST68 : List (Nat × (St → Cont (List DV × List (List D)) → Rs)) := [(1, sumT T68o1 (L68o1 KK))]
noncomputable def b68o1 : Code := match nodeAt c68 1 with | some (.loop a) => a | _ => .skip
theorem q68o1 : ∀ m vs K, L68o1 (m + 1) vs K = denK C68 (lkS ST68) b68o1 2 (fillS T68o1 vs) (loopK T68o1 (L68o1 m) K) := fun m vs K => by kernel_rfl
theorem o68o1 : SumOk C68 KK (sumT T68o1 (L68o1 KK)) (.loop b68o1) := loop_ok T68o1 L68o1 (sums_of (t := ST68) ⟨fun _ _ h => absurd h (by decide), trivial⟩) (fun _ _ => rfl) q68o1
theorem r68 : ∀ vs, tw68 vs = bodyK C68 (lkS ST68) Try.f68 (sig 68) c68 (fillAs A68 0 vs) := fun vs => by kernel_rfl
theorem ok68 : ∀ xs q, opt (th68 xs) = some q → evalBody Try.prog sig (Gd G dep (dep 68)) KK 68 xs = some q := fun xs q h => body_ok Try.func68 (c := c68) rfl A68 tw68 (sums_of (C := C68) (t := ST68) ⟨sum_in (c' := .loop b68o1) (by kernel_rfl) (o68o1), trivial⟩) r68 (by rw [← tpw68]; exact opt_gOf h)
noncomputable def C61 : Ctx := ⟨Try.prog, sig, Gd G dep (dep 61), (sig 61).keep, (sig 61).ord⟩
noncomputable def c61 : Code := Try.f61.body.getD .skip
def T61o0 : TSt := ⟨[.own 1, .d (.i .i64), .d (.i .i64), .d (.i .i64), .any], [(1, .row 90 2)]⟩
def X61o0e1 : TSt := ⟨[.own 1, .d (.i .i64), .d (.i .i64), .d (.i .i64), .d (.b)], [(1, .row 90 2)]⟩
def L61o0 (m : Nat) (vs : List Vr) (K : Cont (List DV × List (List D))) : Rs := la61o0 tu68 (vI vs 1) (fun n17 n18 b19 l20 => K (.exit 0) (fillS X61o0e1 [.i (n17), .i (vI vs 1), .i (n18), .b (b19), .l (l20)])) m (vI vs 0) (vI vs 2) (vV vs 3) (vL vs 4)
def ST61 : List (Nat × (St → Cont (List DV × List (List D)) → Rs)) := [(0, sumT T61o0 (L61o0 KK))]
noncomputable def b61o0 : Code := match nodeAt c61 0 with | some (.loop a) => a | _ => .skip
theorem q61o0 : ∀ m vs K, L61o0 (m + 1) vs K = denK C61 (lkS ST61) b61o0 1 (fillS T61o0 vs) (loopK T61o0 (L61o0 m) K) := fun m vs K => by kernel_rfl
theorem o61o0 : SumOk C61 KK (sumT T61o0 (L61o0 KK)) (.loop b61o0) := loop_ok T61o0 L61o0 (sums_of (t := ST61) ⟨fun _ _ h => absurd h (by decide), trivial⟩) (fun _ _ => rfl) q61o0
theorem r61 : ∀ vs, tw61 vs = bodyK C61 (lkS ST61) Try.f61 (sig 61) c61 (fillAs A61 0 vs) := fun vs => by kernel_rfl
theorem ok61 : ∀ xs q, opt (th61 xs) = some q → evalBody Try.prog sig (Gd G dep (dep 61)) KK 61 xs = some q := fun xs q h => body_ok Try.func61 (c := c61) rfl A61 tw61 (sums_of (C := C61) (t := ST61) ⟨sum_in (c' := .loop b61o0) (by kernel_rfl) (o61o0), trivial⟩) r61 (by rw [← tpw61]; exact opt_gOf h)
noncomputable def C19 : Ctx := ⟨Try.prog, sig, Gd G dep (dep 19), (sig 19).keep, (sig 19).ord⟩
noncomputable def c19 : Code := Try.f19.body.getD .skip
def ST19 : List (Nat × (St → Cont (List DV × List (List D)) → Rs)) := []
theorem r19 : ∀ vs, tw19 vs = bodyK C19 (lkS ST19) Try.f19 (sig 19) c19 (fillAs A19 0 vs) := fun vs => by kernel_rfl
theorem ok19 : ∀ xs q, opt (th19 xs) = some q → evalBody Try.prog sig (Gd G dep (dep 19)) KK 19 xs = some q := fun xs q h => body_ok Try.func19 (c := c19) rfl A19 tw19 (sums_of (C := C19) (t := ST19) trivial) r19 (by rw [← tpw19]; exact opt_gOf h)
noncomputable def C29 : Ctx := ⟨Try.prog, sig, Gd G dep (dep 29), (sig 29).keep, (sig 29).ord⟩
noncomputable def c29 : Code := Try.f29.body.getD .skip
def T29o0 : TSt := ⟨[.own 1, .d (.i .i64), .d (.i .i64), .d (.i .i64), .any], [(1, .row 38 5)]⟩
def X29o0e1 : TSt := ⟨[.own 1, .d (.i .i64), .d (.i .i64), .d (.i .i64), .d (.b)], [(1, .row 38 5)]⟩
def L29o0 (m : Nat) (vs : List Vr) (K : Cont (List DV × List (List D))) : Rs := la29o0 tu68 (vI vs 1) (fun n17 n18 b19 l20 => K (.exit 0) (fillS X29o0e1 [.i (n17), .i (vI vs 1), .i (n18), .b (b19), .l (l20)])) m (vI vs 0) (vI vs 2) (vV vs 3) (vL vs 4)
def ST29 : List (Nat × (St → Cont (List DV × List (List D)) → Rs)) := [(0, sumT T29o0 (L29o0 KK))]
noncomputable def b29o0 : Code := match nodeAt c29 0 with | some (.loop a) => a | _ => .skip
theorem q29o0 : ∀ m vs K, L29o0 (m + 1) vs K = denK C29 (lkS ST29) b29o0 1 (fillS T29o0 vs) (loopK T29o0 (L29o0 m) K) := fun m vs K => by kernel_rfl
theorem o29o0 : SumOk C29 KK (sumT T29o0 (L29o0 KK)) (.loop b29o0) := loop_ok T29o0 L29o0 (sums_of (t := ST29) ⟨fun _ _ h => absurd h (by decide), trivial⟩) (fun _ _ => rfl) q29o0
theorem r29 : ∀ vs, tw29 vs = bodyK C29 (lkS ST29) Try.f29 (sig 29) c29 (fillAs A29 0 vs) := fun vs => by kernel_rfl
theorem ok29 : ∀ xs q, opt (th29 xs) = some q → evalBody Try.prog sig (Gd G dep (dep 29)) KK 29 xs = some q := fun xs q h => body_ok Try.func29 (c := c29) rfl A29 tw29 (sums_of (C := C29) (t := ST29) ⟨sum_in (c' := .loop b29o0) (by kernel_rfl) (o29o0), trivial⟩) r29 (by rw [← tpw29]; exact opt_gOf h)
noncomputable def C33 : Ctx := ⟨Try.prog, sig, Gd G dep (dep 33), (sig 33).keep, (sig 33).ord⟩
noncomputable def c33 : Code := Try.f33.body.getD .skip
def ST33 : List (Nat × (St → Cont (List DV × List (List D)) → Rs)) := []
theorem r33 : ∀ vs, tw33 vs = bodyK C33 (lkS ST33) Try.f33 (sig 33) c33 (fillAs A33 0 vs) := fun vs => by kernel_rfl
theorem ok33 : ∀ xs q, opt (th33 xs) = some q → evalBody Try.prog sig (Gd G dep (dep 33)) KK 33 xs = some q := fun xs q h => body_ok Try.func33 (c := c33) rfl A33 tw33 (sums_of (C := C33) (t := ST33) trivial) r33 (by rw [← tpw33]; exact opt_gOf h)
noncomputable def C62 : Ctx := ⟨Try.prog, sig, Gd G dep (dep 62), (sig 62).keep, (sig 62).ord⟩
noncomputable def c62 : Code := Try.f62.body.getD .skip
def T62o0 : TSt := ⟨[.d (.l), .d (.i .i64), .d (.i .i64), .d (.i .i64), .any, .any, .any], []⟩
def X62o0e1 : TSt := ⟨[.d (.l), .d (.i .i64), .d (.i .i64), .d (.i .i64), .d (.b), .d (.b), .any], []⟩
def X62o0e2 : TSt := ⟨[.d (.l), .d (.i .i64), .d (.i .i64), .d (.i .i64), .d (.b), .d (.b), .d (.b)], []⟩
def X62o0e3 : TSt := ⟨[.d (.l), .d (.i .i64), .d (.i .i64), .d (.i .i64), .d (.b), .any, .any], []⟩
def L62o0 (m : Nat) (vs : List Vr) (K : Cont (List DV × List (List D))) : Rs := la62o0 tu68 (vL vs 0) (vI vs 2) (fun n21 n22 b23 b24 v25 => K .ret (fillS X62o0e1 [.l (vL vs 0), .i (n21), .i ((-1 : Int)), .i (n22), .b (b23), .b (b24), .v (v25)])) (fun n26 n27 b28 b29 b30 => K .ret (fillS X62o0e2 [.l (vL vs 0), .i (n26), .i ((-1 : Int)), .i (n27), .b (b28), .b (b29), .b (b30)])) (fun n31 n32 b33 v34 v35 => K (.exit 0) (fillS X62o0e3 [.l (vL vs 0), .i (n31), .i (vI vs 2), .i (n32), .b (b33), .v (v34), .v (v35)])) m (vI vs 1) (vI vs 3) (vV vs 4) (vV vs 5) (vV vs 6)
def ST62 : List (Nat × (St → Cont (List DV × List (List D)) → Rs)) := [(0, sumT T62o0 (L62o0 KK))]
noncomputable def b62o0 : Code := match nodeAt c62 0 with | some (.loop a) => a | _ => .skip
theorem q62o0 : ∀ m vs K, L62o0 (m + 1) vs K = denK C62 (lkS ST62) b62o0 1 (fillS T62o0 vs) (loopK T62o0 (L62o0 m) K) := fun m vs K => by kernel_rfl
theorem o62o0 : SumOk C62 KK (sumT T62o0 (L62o0 KK)) (.loop b62o0) := loop_ok T62o0 L62o0 (sums_of (t := ST62) ⟨fun _ _ h => absurd h (by decide), trivial⟩) (fun _ _ => rfl) q62o0
theorem r62 : ∀ vs, tw62 vs = bodyK C62 (lkS ST62) Try.f62 (sig 62) c62 (fillAs A62 0 vs) := fun vs => by kernel_rfl
theorem ok62 : ∀ xs q, opt (th62 xs) = some q → evalBody Try.prog sig (Gd G dep (dep 62)) KK 62 xs = some q := fun xs q h => body_ok Try.func62 (c := c62) rfl A62 tw62 (sums_of (C := C62) (t := ST62) ⟨sum_in (c' := .loop b62o0) (by kernel_rfl) (o62o0), trivial⟩) r62 (by rw [← tpw62]; exact opt_gOf h)
noncomputable def C20 : Ctx := ⟨Try.prog, sig, Gd G dep (dep 20), (sig 20).keep, (sig 20).ord⟩
noncomputable def c20 : Code := Try.f20.body.getD .skip
def ST20 : List (Nat × (St → Cont (List DV × List (List D)) → Rs)) := []
theorem r20 : ∀ vs, tw20 vs = bodyK C20 (lkS ST20) Try.f20 (sig 20) c20 (fillAs A20 0 vs) := fun vs => by kernel_rfl
theorem ok20 : ∀ xs q, opt (th20 xs) = some q → evalBody Try.prog sig (Gd G dep (dep 20)) KK 20 xs = some q := fun xs q h => body_ok Try.func20 (c := c20) rfl A20 tw20 (sums_of (C := C20) (t := ST20) trivial) r20 (by rw [← tpw20]; exact opt_gOf h)
noncomputable def C30 : Ctx := ⟨Try.prog, sig, Gd G dep (dep 30), (sig 30).keep, (sig 30).ord⟩
noncomputable def c30 : Code := Try.f30.body.getD .skip
def T30o0 : TSt := ⟨[.d (.l), .d (.i .i64), .d (.i .i64), .d (.i .i64), .any, .any, .any, .any, .any, .any], []⟩
def X30o0e1 : TSt := ⟨[.d (.l), .d (.i .i64), .d (.i .i64), .d (.i .i64), .d (.b), .d (.b), .any, .any, .any, .any], []⟩
def X30o0e2 : TSt := ⟨[.d (.l), .d (.i .i64), .d (.i .i64), .d (.i .i64), .d (.b), .d (.b), .d (.b), .any, .any, .any], []⟩
def X30o0e3 : TSt := ⟨[.d (.l), .d (.i .i64), .d (.i .i64), .d (.i .i64), .d (.b), .d (.b), .d (.b), .d (.b), .any, .any], []⟩
def X30o0e4 : TSt := ⟨[.d (.l), .d (.i .i64), .d (.i .i64), .d (.i .i64), .d (.b), .d (.b), .d (.b), .d (.b), .d (.b), .any], []⟩
def X30o0e5 : TSt := ⟨[.d (.l), .d (.i .i64), .d (.i .i64), .d (.i .i64), .d (.b), .d (.b), .d (.b), .d (.b), .d (.b), .d (.b)], []⟩
def X30o0e6 : TSt := ⟨[.d (.l), .d (.i .i64), .d (.i .i64), .d (.i .i64), .d (.b), .any, .any, .any, .any, .any], []⟩
def L30o0 (m : Nat) (vs : List Vr) (K : Cont (List DV × List (List D))) : Rs := la30o0 tu68 (vL vs 0) (vI vs 2) (fun n27 n28 b29 b30 v31 v32 v33 v34 => K .ret (fillS X30o0e1 [.l (vL vs 0), .i (n27), .i ((-1 : Int)), .i (n28), .b (b29), .b (b30), .v (v31), .v (v32), .v (v33), .v (v34)])) (fun n35 n36 b37 b38 b39 v40 v41 v42 => K .ret (fillS X30o0e2 [.l (vL vs 0), .i (n35), .i ((-1 : Int)), .i (n36), .b (b37), .b (b38), .b (b39), .v (v40), .v (v41), .v (v42)])) (fun n43 n44 b45 b46 b47 b48 v49 v50 => K .ret (fillS X30o0e3 [.l (vL vs 0), .i (n43), .i ((-1 : Int)), .i (n44), .b (b45), .b (b46), .b (b47), .b (b48), .v (v49), .v (v50)])) (fun n51 n52 b53 b54 b55 b56 b57 v58 => K .ret (fillS X30o0e4 [.l (vL vs 0), .i (n51), .i ((-1 : Int)), .i (n52), .b (b53), .b (b54), .b (b55), .b (b56), .b (b57), .v (v58)])) (fun n59 n60 b61 b62 b63 b64 b65 b66 => K .ret (fillS X30o0e5 [.l (vL vs 0), .i (n59), .i ((-1 : Int)), .i (n60), .b (b61), .b (b62), .b (b63), .b (b64), .b (b65), .b (b66)])) (fun n67 n68 b69 v70 v71 v72 v73 v74 => K (.exit 0) (fillS X30o0e6 [.l (vL vs 0), .i (n67), .i (vI vs 2), .i (n68), .b (b69), .v (v70), .v (v71), .v (v72), .v (v73), .v (v74)])) m (vI vs 1) (vI vs 3) (vV vs 4) (vV vs 5) (vV vs 6) (vV vs 7) (vV vs 8) (vV vs 9)
def ST30 : List (Nat × (St → Cont (List DV × List (List D)) → Rs)) := [(0, sumT T30o0 (L30o0 KK))]
noncomputable def b30o0 : Code := match nodeAt c30 0 with | some (.loop a) => a | _ => .skip
theorem q30o0 : ∀ m vs K, L30o0 (m + 1) vs K = denK C30 (lkS ST30) b30o0 1 (fillS T30o0 vs) (loopK T30o0 (L30o0 m) K) := fun m vs K => by kernel_rfl
theorem o30o0 : SumOk C30 KK (sumT T30o0 (L30o0 KK)) (.loop b30o0) := loop_ok T30o0 L30o0 (sums_of (t := ST30) ⟨fun _ _ h => absurd h (by decide), trivial⟩) (fun _ _ => rfl) q30o0
theorem r30 : ∀ vs, tw30 vs = bodyK C30 (lkS ST30) Try.f30 (sig 30) c30 (fillAs A30 0 vs) := fun vs => by kernel_rfl
theorem ok30 : ∀ xs q, opt (th30 xs) = some q → evalBody Try.prog sig (Gd G dep (dep 30)) KK 30 xs = some q := fun xs q h => body_ok Try.func30 (c := c30) rfl A30 tw30 (sums_of (C := C30) (t := ST30) ⟨sum_in (c' := .loop b30o0) (by kernel_rfl) (o30o0), trivial⟩) r30 (by rw [← tpw30]; exact opt_gOf h)
noncomputable def C36 : Ctx := ⟨Try.prog, sig, Gd G dep (dep 36), (sig 36).keep, (sig 36).ord⟩
noncomputable def c36 : Code := Try.f36.body.getD .skip
def ST36 : List (Nat × (St → Cont (List DV × List (List D)) → Rs)) := []
theorem r36 : ∀ vs, tw36 vs = bodyK C36 (lkS ST36) Try.f36 (sig 36) c36 (fillAs A36 0 vs) := fun vs => by kernel_rfl
theorem ok36 : ∀ xs q, opt (th36 xs) = some q → evalBody Try.prog sig (Gd G dep (dep 36)) KK 36 xs = some q := fun xs q h => body_ok Try.func36 (c := c36) rfl A36 tw36 (sums_of (C := C36) (t := ST36) trivial) r36 (by rw [← tpw36]; exact opt_gOf h)
noncomputable def C9 : Ctx := ⟨Try.prog, sig, Gd G dep (dep 9), (sig 9).keep, (sig 9).ord⟩
noncomputable def c9 : Code := Try.f9.body.getD .skip
def ST9 : List (Nat × (St → Cont (List DV × List (List D)) → Rs)) := []
theorem r9 : ∀ vs, tw9 vs = bodyK C9 (lkS ST9) Try.f9 (sig 9) c9 (fillAs A9 0 vs) := fun vs => by kernel_rfl
theorem ok9 : ∀ xs q, opt (th9 xs) = some q → evalBody Try.prog sig (Gd G dep (dep 9)) KK 9 xs = some q := fun xs q h => body_ok Try.func9 (c := c9) rfl A9 tw9 (sums_of (C := C9) (t := ST9) trivial) r9 (by rw [← tpw9]; exact opt_gOf h)
theorem fn_ok : ∀ f ∈ [49, 82, 50, 12, 13, 39, 21, 54, 87, 55, 15, 16, 41, 23, 83, 84, 51, 53, 85, 94, 86, 65, 52, 63, 22, 70, 69, 40, 76, 56, 57, 45, 95, 88, 58, 64, 71, 42, 59, 89, 60, 18, 67, 28, 25, 68, 61, 19, 29, 33, 62, 20, 30, 36, 9], FnOk Try.prog sig f := fun f h => fnOk_of (List.all_eq_true.1 (show [49, 82, 50, 12, 13, 39, 21, 54, 87, 55, 15, 16, 41, 23, 83, 84, 51, 53, 85, 94, 86, 65, 52, 63, 22, 70, 69, 40, 76, 56, 57, 45, 95, 88, 58, 64, 71, 42, 59, 89, 60, 18, 67, 28, 25, 68, 61, 19, 29, 33, 62, 20, 30, 36, 9].all (fnOkB Try.prog sig) = true by kernel_rfl) f h)
theorem all_ok : AllG (fun f xs q => FnOk Try.prog sig f ∧ evalBody Try.prog sig (Gd G dep (dep f)) KK f xs = some q) gT :=
  ⟨fun xs q h => ⟨fn_ok 49 (by simp), ok49 xs q h⟩, fun xs q h => ⟨fn_ok 82 (by simp), ok82 xs q h⟩, fun xs q h => ⟨fn_ok 50 (by simp), ok50 xs q h⟩, fun xs q h => ⟨fn_ok 12 (by simp), ok12 xs q h⟩, fun xs q h => ⟨fn_ok 13 (by simp), ok13 xs q h⟩, fun xs q h => ⟨fn_ok 39 (by simp), ok39 xs q h⟩, fun xs q h => ⟨fn_ok 21 (by simp), ok21 xs q h⟩, fun xs q h => ⟨fn_ok 54 (by simp), ok54 xs q h⟩, fun xs q h => ⟨fn_ok 87 (by simp), ok87 xs q h⟩, fun xs q h => ⟨fn_ok 55 (by simp), ok55 xs q h⟩, fun xs q h => ⟨fn_ok 15 (by simp), ok15 xs q h⟩, fun xs q h => ⟨fn_ok 16 (by simp), ok16 xs q h⟩, fun xs q h => ⟨fn_ok 41 (by simp), ok41 xs q h⟩, fun xs q h => ⟨fn_ok 23 (by simp), ok23 xs q h⟩, fun xs q h => ⟨fn_ok 83 (by simp), ok83 xs q h⟩, fun xs q h => ⟨fn_ok 84 (by simp), ok84 xs q h⟩, fun xs q h => ⟨fn_ok 51 (by simp), ok51 xs q h⟩, fun xs q h => ⟨fn_ok 53 (by simp), ok53 xs q h⟩, fun xs q h => ⟨fn_ok 85 (by simp), ok85 xs q h⟩, fun xs q h => ⟨fn_ok 94 (by simp), ok94 xs q h⟩, fun xs q h => ⟨fn_ok 86 (by simp), ok86 xs q h⟩, fun xs q h => ⟨fn_ok 65 (by simp), ok65 xs q h⟩, fun xs q h => ⟨fn_ok 52 (by simp), ok52 xs q h⟩, fun xs q h => ⟨fn_ok 63 (by simp), ok63 xs q h⟩, fun xs q h => ⟨fn_ok 22 (by simp), ok22 xs q h⟩, fun xs q h => ⟨fn_ok 70 (by simp), ok70 xs q h⟩, fun xs q h => ⟨fn_ok 69 (by simp), ok69 xs q h⟩, fun xs q h => ⟨fn_ok 40 (by simp), ok40 xs q h⟩, fun xs q h => ⟨fn_ok 76 (by simp), ok76 xs q h⟩, fun xs q h => ⟨fn_ok 56 (by simp), ok56 xs q h⟩, fun xs q h => ⟨fn_ok 57 (by simp), ok57 xs q h⟩, fun xs q h => ⟨fn_ok 45 (by simp), ok45 xs q h⟩, fun xs q h => ⟨fn_ok 95 (by simp), ok95 xs q h⟩, fun xs q h => ⟨fn_ok 88 (by simp), ok88 xs q h⟩, fun xs q h => ⟨fn_ok 58 (by simp), ok58 xs q h⟩, fun xs q h => ⟨fn_ok 64 (by simp), ok64 xs q h⟩, fun xs q h => ⟨fn_ok 71 (by simp), ok71 xs q h⟩, fun xs q h => ⟨fn_ok 42 (by simp), ok42 xs q h⟩, fun xs q h => ⟨fn_ok 59 (by simp), ok59 xs q h⟩, fun xs q h => ⟨fn_ok 89 (by simp), ok89 xs q h⟩, fun xs q h => ⟨fn_ok 60 (by simp), ok60 xs q h⟩, fun xs q h => ⟨fn_ok 18 (by simp), ok18 xs q h⟩, fun xs q h => ⟨fn_ok 67 (by simp), ok67 xs q h⟩, fun xs q h => ⟨fn_ok 28 (by simp), ok28 xs q h⟩, fun xs q h => ⟨fn_ok 25 (by simp), ok25 xs q h⟩, fun xs q h => ⟨fn_ok 68 (by simp), ok68 xs q h⟩, fun xs q h => ⟨fn_ok 61 (by simp), ok61 xs q h⟩, fun xs q h => ⟨fn_ok 19 (by simp), ok19 xs q h⟩, fun xs q h => ⟨fn_ok 29 (by simp), ok29 xs q h⟩, fun xs q h => ⟨fn_ok 33 (by simp), ok33 xs q h⟩, fun xs q h => ⟨fn_ok 62 (by simp), ok62 xs q h⟩, fun xs q h => ⟨fn_ok 20 (by simp), ok20 xs q h⟩, fun xs q h => ⟨fn_ok 30 (by simp), ok30 xs q h⟩, fun xs q h => ⟨fn_ok 36 (by simp), ok36 xs q h⟩, fun xs q h => ⟨fn_ok 9 (by simp), ok9 xs q h⟩, trivial⟩
theorem G_ok (f : Nat) : SpecOk Try.prog (sig f) (fun xs => opt (G f xs)) f := G_spec (by kernel_rfl) (allG_of all_ok) f
end
end Go.Den.L9
