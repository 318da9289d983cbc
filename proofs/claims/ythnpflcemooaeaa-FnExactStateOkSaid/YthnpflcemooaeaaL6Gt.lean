/- The functions' table, and that each is what its twin says. Printed by tw.py. -/
import Derived.Test.YthnpflcemooaeaaL6Tw
import Derived.Test.YthnpflcemooaeaaProg
import Derived.KernelRfl
set_option linter.unusedVariables false
namespace Go.Den.L6
open Go Go.Proofs
noncomputable section
set_option maxRecDepth 100000
def tu144 : ByteArray → Int → Int → Rs := Classical.choose (⟨t144, rfl⟩ : ∃ f, f = t144)
theorem tu144_eq : tu144 = t144 := Classical.choose_spec (⟨t144, rfl⟩ : ∃ f, f = t144)
def tu138 : List (List D) → Int → Rs := Classical.choose (⟨t138, rfl⟩ : ∃ f, f = t138)
theorem tu138_eq : tu138 = t138 := Classical.choose_spec (⟨t138, rfl⟩ : ∃ f, f = t138)
def tu122 : Int → Int → Int → Int → Int → ByteArray → List (List D) → Int → Int → Int → Rs := Classical.choose (⟨t122, rfl⟩ : ∃ f, f = t122)
theorem tu122_eq : tu122 = t122 := Classical.choose_spec (⟨t122, rfl⟩ : ∃ f, f = t122)
def tu89 : List (List D) → Int → Rs := Classical.choose (⟨t89, rfl⟩ : ∃ f, f = t89)
theorem tu89_eq : tu89 = t89 := Classical.choose_spec (⟨t89, rfl⟩ : ∃ f, f = t89)
def tu53 : Int → List (List D) → Int → Rs := Classical.choose (⟨t53, rfl⟩ : ∃ f, f = t53)
theorem tu53_eq : tu53 = t53 := Classical.choose_spec (⟨t53, rfl⟩ : ∃ f, f = t53)
def tu54 : List (List D) → Int → Rs := Classical.choose (⟨t54, rfl⟩ : ∃ f, f = t54)
theorem tu54_eq : tu54 = t54 := Classical.choose_spec (⟨t54, rfl⟩ : ∃ f, f = t54)
def tu123 : Int → ByteArray → Int → Rs := Classical.choose (⟨t123, rfl⟩ : ∃ f, f = t123)
theorem tu123_eq : tu123 = t123 := Classical.choose_spec (⟨t123, rfl⟩ : ∃ f, f = t123)
def tu90 : Int → Int → Int → Int → ByteArray → Int → Rs := Classical.choose (⟨t90, rfl⟩ : ∃ f, f = t90)
theorem tu90_eq : tu90 = t90 := Classical.choose_spec (⟨t90, rfl⟩ : ∃ f, f = t90)
def tu55 : List (List D) → Int → Rs := Classical.choose (⟨t55, rfl⟩ : ∃ f, f = t55)
theorem tu55_eq : tu55 = t55 := Classical.choose_spec (⟨t55, rfl⟩ : ∃ f, f = t55)
def tu22 : Int → List (List D) → Int → List (List D) → List (List D) → Int → Rs := Classical.choose (⟨t22, rfl⟩ : ∃ f, f = t22)
theorem tu22_eq : tu22 = t22 := Classical.choose_spec (⟨t22, rfl⟩ : ∃ f, f = t22)
def tu26 : List (List D) → Int → Rs := Classical.choose (⟨t26, rfl⟩ : ∃ f, f = t26)
theorem tu26_eq : tu26 = t26 := Classical.choose_spec (⟨t26, rfl⟩ : ∃ f, f = t26)
def tu145 : ByteArray → Int → Rs := Classical.choose (⟨t145, rfl⟩ : ∃ f, f = t145)
theorem tu145_eq : tu145 = t145 := Classical.choose_spec (⟨t145, rfl⟩ : ∃ f, f = t145)
def tu140 : List (List D) → Rs := Classical.choose (⟨t140, rfl⟩ : ∃ f, f = t140)
theorem tu140_eq : tu140 = t140 := Classical.choose_spec (⟨t140, rfl⟩ : ∃ f, f = t140)
def tu128 : Int → Int → Int → Int → Int → ByteArray → List (List D) → Int → Int → Rs := Classical.choose (⟨t128, rfl⟩ : ∃ f, f = t128)
theorem tu128_eq : tu128 = t128 := Classical.choose_spec (⟨t128, rfl⟩ : ∃ f, f = t128)
def tu96 : List (List D) → Rs := Classical.choose (⟨t96, rfl⟩ : ∃ f, f = t96)
theorem tu96_eq : tu96 = t96 := Classical.choose_spec (⟨t96, rfl⟩ : ∃ f, f = t96)
def tu60 : Int → List (List D) → Rs := Classical.choose (⟨t60, rfl⟩ : ∃ f, f = t60)
theorem tu60_eq : tu60 = t60 := Classical.choose_spec (⟨t60, rfl⟩ : ∃ f, f = t60)
def tu97 : Int → Int → Int → Int → Int → Rs := Classical.choose (⟨t97, rfl⟩ : ∃ f, f = t97)
theorem tu97_eq : tu97 = t97 := Classical.choose_spec (⟨t97, rfl⟩ : ∃ f, f = t97)
def tu61 : List (List D) → Rs := Classical.choose (⟨t61, rfl⟩ : ∃ f, f = t61)
theorem tu61_eq : tu61 = t61 := Classical.choose_spec (⟨t61, rfl⟩ : ∃ f, f = t61)
def tu129 : Int → ByteArray → Rs := Classical.choose (⟨t129, rfl⟩ : ∃ f, f = t129)
theorem tu129_eq : tu129 = t129 := Classical.choose_spec (⟨t129, rfl⟩ : ∃ f, f = t129)
def tu98 : Int → Int → Int → Int → ByteArray → Rs := Classical.choose (⟨t98, rfl⟩ : ∃ f, f = t98)
theorem tu98_eq : tu98 = t98 := Classical.choose_spec (⟨t98, rfl⟩ : ∃ f, f = t98)
def tu62 : List (List D) → Rs := Classical.choose (⟨t62, rfl⟩ : ∃ f, f = t62)
theorem tu62_eq : tu62 = t62 := Classical.choose_spec (⟨t62, rfl⟩ : ∃ f, f = t62)
def tu24 : Int → List (List D) → Int → List (List D) → List (List D) → Rs := Classical.choose (⟨t24, rfl⟩ : ∃ f, f = t24)
theorem tu24_eq : tu24 = t24 := Classical.choose_spec (⟨t24, rfl⟩ : ∃ f, f = t24)
def tu28 : List (List D) → Rs := Classical.choose (⟨t28, rfl⟩ : ∃ f, f = t28)
theorem tu28_eq : tu28 = t28 := Classical.choose_spec (⟨t28, rfl⟩ : ∃ f, f = t28)
def tu57 : Int → Int → Int → Rs := Classical.choose (⟨t57, rfl⟩ : ∃ f, f = t57)
theorem tu57_eq : tu57 = t57 := Classical.choose_spec (⟨t57, rfl⟩ : ∃ f, f = t57)
def tu139 : Int → Rs := Classical.choose (⟨t139, rfl⟩ : ∃ f, f = t139)
theorem tu139_eq : tu139 = t139 := Classical.choose_spec (⟨t139, rfl⟩ : ∃ f, f = t139)
def tu124 : ByteArray → Rs := Classical.choose (⟨t124, rfl⟩ : ∃ f, f = t124)
theorem tu124_eq : tu124 = t124 := Classical.choose_spec (⟨t124, rfl⟩ : ∃ f, f = t124)
def tu125 : ByteArray → Rs := Classical.choose (⟨t125, rfl⟩ : ∃ f, f = t125)
theorem tu125_eq : tu125 = t125 := Classical.choose_spec (⟨t125, rfl⟩ : ∃ f, f = t125)
def tu126 : Int → List (List D) → Int → Rs := Classical.choose (⟨t126, rfl⟩ : ∃ f, f = t126)
theorem tu126_eq : tu126 = t126 := Classical.choose_spec (⟨t126, rfl⟩ : ∃ f, f = t126)
def tu91 : Int → List (List D) → Int → Int → Int → Int → Int → ByteArray → List (List D) → Int → Int → Rs := Classical.choose (⟨t91, rfl⟩ : ∃ f, f = t91)
theorem tu91_eq : tu91 = t91 := Classical.choose_spec (⟨t91, rfl⟩ : ∃ f, f = t91)
def tu92 : Int → List (List D) → Int → Rs := Classical.choose (⟨t92, rfl⟩ : ∃ f, f = t92)
theorem tu92_eq : tu92 = t92 := Classical.choose_spec (⟨t92, rfl⟩ : ∃ f, f = t92)
def tu93 : Int → List (List D) → Int → Rs := Classical.choose (⟨t93, rfl⟩ : ∃ f, f = t93)
theorem tu93_eq : tu93 = t93 := Classical.choose_spec (⟨t93, rfl⟩ : ∃ f, f = t93)
def tu94 : Int → List (List D) → Rs := Classical.choose (⟨t94, rfl⟩ : ∃ f, f = t94)
theorem tu94_eq : tu94 = t94 := Classical.choose_spec (⟨t94, rfl⟩ : ∃ f, f = t94)
def tu127 : Int → List (List D) → Int → Rs := Classical.choose (⟨t127, rfl⟩ : ∃ f, f = t127)
theorem tu127_eq : tu127 = t127 := Classical.choose_spec (⟨t127, rfl⟩ : ∃ f, f = t127)
def tu95 : Int → List (List D) → Rs := Classical.choose (⟨t95, rfl⟩ : ∃ f, f = t95)
theorem tu95_eq : tu95 = t95 := Classical.choose_spec (⟨t95, rfl⟩ : ∃ f, f = t95)
def tu56 : Int → List (List D) → Rs := Classical.choose (⟨t56, rfl⟩ : ∃ f, f = t56)
theorem tu56_eq : tu56 = t56 := Classical.choose_spec (⟨t56, rfl⟩ : ∃ f, f = t56)
def tu58 : List (List D) → Rs := Classical.choose (⟨t58, rfl⟩ : ∃ f, f = t58)
theorem tu58_eq : tu58 = t58 := Classical.choose_spec (⟨t58, rfl⟩ : ∃ f, f = t58)
def tu59 : Int → ByteArray → Rs := Classical.choose (⟨t59, rfl⟩ : ∃ f, f = t59)
theorem tu59_eq : tu59 = t59 := Classical.choose_spec (⟨t59, rfl⟩ : ∃ f, f = t59)
def tu23 : Int → List (List D) → Int → List (List D) → List (List D) → Rs := Classical.choose (⟨t23, rfl⟩ : ∃ f, f = t23)
theorem tu23_eq : tu23 = t23 := Classical.choose_spec (⟨t23, rfl⟩ : ∃ f, f = t23)
def tu27 : List (List D) → Rs := Classical.choose (⟨t27, rfl⟩ : ∃ f, f = t27)
theorem tu27_eq : tu27 = t27 := Classical.choose_spec (⟨t27, rfl⟩ : ∃ f, f = t27)
def tu63 : Int → Int → Int → Rs := Classical.choose (⟨t63, rfl⟩ : ∃ f, f = t63)
theorem tu63_eq : tu63 = t63 := Classical.choose_spec (⟨t63, rfl⟩ : ∃ f, f = t63)
def tu64 : Int → ByteArray → Rs := Classical.choose (⟨t64, rfl⟩ : ∃ f, f = t64)
theorem tu64_eq : tu64 = t64 := Classical.choose_spec (⟨t64, rfl⟩ : ∃ f, f = t64)
def tu65 : List (List D) → Rs := Classical.choose (⟨t65, rfl⟩ : ∃ f, f = t65)
theorem tu65_eq : tu65 = t65 := Classical.choose_spec (⟨t65, rfl⟩ : ∃ f, f = t65)
def tu141 : Int → Rs := Classical.choose (⟨t141, rfl⟩ : ∃ f, f = t141)
theorem tu141_eq : tu141 = t141 := Classical.choose_spec (⟨t141, rfl⟩ : ∃ f, f = t141)
def tu130 : ByteArray → Rs := Classical.choose (⟨t130, rfl⟩ : ∃ f, f = t130)
theorem tu130_eq : tu130 = t130 := Classical.choose_spec (⟨t130, rfl⟩ : ∃ f, f = t130)
def tu142 : ByteArray → Rs := Classical.choose (⟨t142, rfl⟩ : ∃ f, f = t142)
theorem tu142_eq : tu142 = t142 := Classical.choose_spec (⟨t142, rfl⟩ : ∃ f, f = t142)
def tu132 : Int → List (List D) → Int → Rs := Classical.choose (⟨t132, rfl⟩ : ∃ f, f = t132)
theorem tu132_eq : tu132 = t132 := Classical.choose_spec (⟨t132, rfl⟩ : ∃ f, f = t132)
def tu131 : Int → List (List D) → Int → Int → Int → Int → Int → ByteArray → List (List D) → Int → Int → Rs := Classical.choose (⟨t131, rfl⟩ : ∃ f, f = t131)
theorem tu131_eq : tu131 = t131 := Classical.choose_spec (⟨t131, rfl⟩ : ∃ f, f = t131)
def tu99 : Int → List (List D) → Int → Int → Int → Int → Int → ByteArray → List (List D) → Int → Int → Rs := Classical.choose (⟨t99, rfl⟩ : ∃ f, f = t99)
theorem tu99_eq : tu99 = t99 := Classical.choose_spec (⟨t99, rfl⟩ : ∃ f, f = t99)
def tu133 : List (List D) → Int → Rs := Classical.choose (⟨t133, rfl⟩ : ∃ f, f = t133)
theorem tu133_eq : tu133 = t133 := Classical.choose_spec (⟨t133, rfl⟩ : ∃ f, f = t133)
def tu101 : List (List D) → Int → Rs := Classical.choose (⟨t101, rfl⟩ : ∃ f, f = t101)
theorem tu101_eq : tu101 = t101 := Classical.choose_spec (⟨t101, rfl⟩ : ∃ f, f = t101)
def tu100 : Int → List (List D) → Int → Rs := Classical.choose (⟨t100, rfl⟩ : ∃ f, f = t100)
theorem tu100_eq : tu100 = t100 := Classical.choose_spec (⟨t100, rfl⟩ : ∃ f, f = t100)
def tu102 : Int → List (List D) → Int → Rs := Classical.choose (⟨t102, rfl⟩ : ∃ f, f = t102)
theorem tu102_eq : tu102 = t102 := Classical.choose_spec (⟨t102, rfl⟩ : ∃ f, f = t102)
def tu103 : Int → List (List D) → Rs := Classical.choose (⟨t103, rfl⟩ : ∃ f, f = t103)
theorem tu103_eq : tu103 = t103 := Classical.choose_spec (⟨t103, rfl⟩ : ∃ f, f = t103)
def tu135 : Int → List (List D) → Int → Rs := Classical.choose (⟨t135, rfl⟩ : ∃ f, f = t135)
theorem tu135_eq : tu135 = t135 := Classical.choose_spec (⟨t135, rfl⟩ : ∃ f, f = t135)
def tu105 : Int → List (List D) → Int → Int → Int → Int → Int → ByteArray → List (List D) → Int → Int → Rs := Classical.choose (⟨t105, rfl⟩ : ∃ f, f = t105)
theorem tu105_eq : tu105 = t105 := Classical.choose_spec (⟨t105, rfl⟩ : ∃ f, f = t105)
def tu134 : List (List D) → Int → List (List D) → Rs := Classical.choose (⟨t134, rfl⟩ : ∃ f, f = t134)
theorem tu134_eq : tu134 = t134 := Classical.choose_spec (⟨t134, rfl⟩ : ∃ f, f = t134)
def tu104 : List (List D) → Int → List (List D) → Rs := Classical.choose (⟨t104, rfl⟩ : ∃ f, f = t104)
theorem tu104_eq : tu104 = t104 := Classical.choose_spec (⟨t104, rfl⟩ : ∃ f, f = t104)
def tu66 : Int → List (List D) → Rs := Classical.choose (⟨t66, rfl⟩ : ∃ f, f = t66)
theorem tu66_eq : tu66 = t66 := Classical.choose_spec (⟨t66, rfl⟩ : ∃ f, f = t66)
def tu25 : Int → List (List D) → Int → List (List D) → List (List D) → Rs := Classical.choose (⟨t25, rfl⟩ : ∃ f, f = t25)
theorem tu25_eq : tu25 = t25 := Classical.choose_spec (⟨t25, rfl⟩ : ∃ f, f = t25)
def tu29 : List (List D) → Rs := Classical.choose (⟨t29, rfl⟩ : ∃ f, f = t29)
theorem tu29_eq : tu29 = t29 := Classical.choose_spec (⟨t29, rfl⟩ : ∃ f, f = t29)
def tu143 : ByteArray → Int → ByteArray → Int → Rs := Classical.choose (⟨t143, rfl⟩ : ∃ f, f = t143)
theorem tu143_eq : tu143 = t143 := Classical.choose_spec (⟨t143, rfl⟩ : ∃ f, f = t143)
def tu137 : List (List D) → List (List D) → Rs := Classical.choose (⟨t137, rfl⟩ : ∃ f, f = t137)
theorem tu137_eq : tu137 = t137 := Classical.choose_spec (⟨t137, rfl⟩ : ∃ f, f = t137)
def tu120 : Int → Int → Int → Int → Int → ByteArray → List (List D) → Int → Int → Int → Int → Int → Int → Int → ByteArray → List (List D) → Int → Int → Rs := Classical.choose (⟨t120, rfl⟩ : ∃ f, f = t120)
theorem tu120_eq : tu120 = t120 := Classical.choose_spec (⟨t120, rfl⟩ : ∃ f, f = t120)
def tu83 : List (List D) → List (List D) → Rs := Classical.choose (⟨t83, rfl⟩ : ∃ f, f = t83)
theorem tu83_eq : tu83 = t83 := Classical.choose_spec (⟨t83, rfl⟩ : ∃ f, f = t83)
def tu42 : Int → List (List D) → Int → List (List D) → Rs := Classical.choose (⟨t42, rfl⟩ : ∃ f, f = t42)
theorem tu42_eq : tu42 = t42 := Classical.choose_spec (⟨t42, rfl⟩ : ∃ f, f = t42)
def tu84 : Int → Int → Int → Int → Int → Int → Int → Int → Int → Int → Rs := Classical.choose (⟨t84, rfl⟩ : ∃ f, f = t84)
theorem tu84_eq : tu84 = t84 := Classical.choose_spec (⟨t84, rfl⟩ : ∃ f, f = t84)
def tu43 : List (List D) → List (List D) → Rs := Classical.choose (⟨t43, rfl⟩ : ∃ f, f = t43)
theorem tu43_eq : tu43 = t43 := Classical.choose_spec (⟨t43, rfl⟩ : ∃ f, f = t43)
def tu121 : Int → ByteArray → Int → ByteArray → Rs := Classical.choose (⟨t121, rfl⟩ : ∃ f, f = t121)
theorem tu121_eq : tu121 = t121 := Classical.choose_spec (⟨t121, rfl⟩ : ∃ f, f = t121)
def tu85 : Int → Int → Int → Int → ByteArray → Int → Int → Int → Int → ByteArray → Rs := Classical.choose (⟨t85, rfl⟩ : ∃ f, f = t85)
theorem tu85_eq : tu85 = t85 := Classical.choose_spec (⟨t85, rfl⟩ : ∃ f, f = t85)
def tu44 : List (List D) → List (List D) → Rs := Classical.choose (⟨t44, rfl⟩ : ∃ f, f = t44)
theorem tu44_eq : tu44 = t44 := Classical.choose_spec (⟨t44, rfl⟩ : ∃ f, f = t44)
def tu14 : Int → List (List D) → Int → List (List D) → List (List D) → Int → List (List D) → Int → List (List D) → List (List D) → Rs := Classical.choose (⟨t14, rfl⟩ : ∃ f, f = t14)
theorem tu14_eq : tu14 = t14 := Classical.choose_spec (⟨t14, rfl⟩ : ∃ f, f = t14)
def tu19 : List (List D) → List (List D) → Rs := Classical.choose (⟨t19, rfl⟩ : ∃ f, f = t19)
theorem tu19_eq : tu19 = t19 := Classical.choose_spec (⟨t19, rfl⟩ : ∃ f, f = t19)
def tu6 : List (List D) → Rs := Classical.choose (⟨t6, rfl⟩ : ∃ f, f = t6)
theorem tu6_eq : tu6 = t6 := Classical.choose_spec (⟨t6, rfl⟩ : ∃ f, f = t6)
theorem te144 : t144 = t144 := rfl
def tw144 (vs : List Vr) : Rs := t144 (vS vs 0) (vI vs 1) (vI vs 2)
def tp144 (vs : List Vr) : Rs := tu144 (vS vs 0) (vI vs 1) (vI vs 2)
theorem tpw144 : tp144 = tw144 := funext fun vs => by unfold tp144 tw144; rw [tu144_eq, te144]
def th144 (xs : List DV) : Bool × List DV × List (List D) := gOf zr144 zo144 (argsT A144 tp144 xs)
def la138o1 (t144 : ByteArray → Int → Int → Rs) (l8 : List (List D)) (n10 : Int) (b12 : Bool) (q1 : Int → Int → Bool → Bool → Rs) (q2 : Int → Int → Bool → SV → Rs) : Nat → Int → Int → SV → SV → Rs
  | 0, _, _, _, _ => none
  | m + 1, n9, n11, v13, v14 =>
    let y1 := decide (n11 < (l8.length : Int))
    if y1 then
     let y2 := l8.getD n11.toNat []
     chk (decide (0 ≤ n11) && decide (n11 < l8.length) && isRow z160 y2) <|
     let y3 := t144 (asS (nthD y2 0)) (asI (nthD y2 1)) n9
     chk (okR zr144 zo144 y3) <|
     let y4 := asI (resC y3 0 0)
     let y5 := decide (y4 < (0 : Int))
     if y5 then
      q1 y4 n11 y1 y5
     else
      la138o1 t144 l8 n10 b12 q1 q2 m y4 (w64 (n11 + (1 : Int))) (.d (.b y1)) (.d (.b y5))
    else
     q2 n9 n11 y1 (keepV [] v14)
def ta138 (t144 : ByteArray → Int → Int → Rs) (l1 : List (List D)) (n2 : Int) : Rs :=
  let y1 := w64 (n2 - (l1.length : Int))
  let y2 := decide (y1 < (0 : Int))
  if y2 then
   some ([.one (.i .i64 (-1 : Int))], [])
  else
   la138o1 t144 l1 (0 : Int) y2
    (fun (n30 : Int) (n31 : Int) (b32 : Bool) (b33 : Bool) =>
     some ([.one (.i .i64 (-1 : Int))], []))
    (fun (n34 : Int) (n35 : Int) (b36 : Bool) (v37 : SV) =>
     some ([.one (.i .i64 n34)], [])) KK y1 (0 : Int) SV.undef SV.undef
theorem te138 : ta138 tu144 = t138 := (by rw [tu144_eq] : ta138 tu144 = ta138 t144).trans (by kernel_rfl)
def tw138 (vs : List Vr) : Rs := ta138 tu144 (vL vs 0) (vI vs 1)
def tp138 (vs : List Vr) : Rs := tu138 (vL vs 0) (vI vs 1)
theorem tpw138 : tp138 = tw138 := funext fun vs => by unfold tp138 tw138; rw [tu138_eq, te138]
def th138 (xs : List DV) : Bool × List DV × List (List D) := gOf zr138 zo138 (argsT A138 tp138 xs)
def ta122 (t138 : List (List D) → Int → Rs) (n1 : Int) (n2 : Int) (n3 : Int) (n4 : Int) (n5 : Int) (s6 : ByteArray) (l7 : List (List D)) (n8 : Int) (n9 : Int) (n10 : Int) : Rs :=
  let y1 := w64 (n10 - (s6.size : Int))
  if decide (y1 < (0 : Int)) then
   some ([.one (.i .i64 (-1 : Int))], [])
  else
   let y2 := t138 l7 y1
   chk (okR zr138 zo138 y2) <|
   let y3 := asI (resC y2 0 0)
   if decide (y3 < (0 : Int)) then
    some ([.one (.i .i64 (-1 : Int))], [])
   else
    some ([.one (.i .i64 y3)], [])
theorem te122 : ta122 tu138 = t122 := (by rw [tu138_eq] : ta122 tu138 = ta122 t138).trans (by kernel_rfl)
def tw122 (vs : List Vr) : Rs := ta122 tu138 (vI vs 0) (vI vs 1) (vI vs 2) (vI vs 3) (vI vs 4) (vS vs 5) (vL vs 6) (vI vs 7) (vI vs 8) (vI vs 9)
def tp122 (vs : List Vr) : Rs := tu122 (vI vs 0) (vI vs 1) (vI vs 2) (vI vs 3) (vI vs 4) (vS vs 5) (vL vs 6) (vI vs 7) (vI vs 8) (vI vs 9)
theorem tpw122 : tp122 = tw122 := funext fun vs => by unfold tp122 tw122; rw [tu122_eq, te122]
def th122 (xs : List DV) : Bool × List DV × List (List D) := gOf zr122 zo122 (argsT A122 tp122 xs)
def la89o1 (t122 : Int → Int → Int → Int → Int → ByteArray → List (List D) → Int → Int → Int → Rs) (l8 : List (List D)) (n10 : Int) (b12 : Bool) (q1 : Int → Int → Bool → Bool → Rs) (q2 : Int → Int → Bool → SV → Rs) : Nat → Int → Int → SV → SV → Rs
  | 0, _, _, _, _ => none
  | m + 1, n9, n11, v13, v14 =>
    let y1 := decide (n11 < (l8.length : Int))
    if y1 then
     let y2 := l8.getD n11.toNat []
     chk (decide (0 ≤ n11) && decide (n11 < l8.length) && isRow z142 y2) <|
     let y3 := t122 (asI (nthD y2 0)) (asI (nthD y2 1)) (asI (nthD y2 2)) (asI (nthD y2 3)) (asI (nthD y2 4)) (asS (nthD y2 5)) (asL (nthD y2 6)) (asI (nthD y2 7)) (asI (nthD y2 8)) n9
     chk (okR zr122 zo122 y3) <|
     let y4 := asI (resC y3 0 0)
     let y5 := decide (y4 < (0 : Int))
     if y5 then
      q1 y4 n11 y1 y5
     else
      la89o1 t122 l8 n10 b12 q1 q2 m y4 (w64 (n11 + (1 : Int))) (.d (.b y1)) (.d (.b y5))
    else
     q2 n9 n11 y1 (keepV [] v14)
def ta89 (t122 : Int → Int → Int → Int → Int → ByteArray → List (List D) → Int → Int → Int → Rs) (l1 : List (List D)) (n2 : Int) : Rs :=
  let y1 := w64 (n2 - (l1.length : Int))
  let y2 := decide (y1 < (0 : Int))
  if y2 then
   some ([.one (.i .i64 (-1 : Int))], [])
  else
   la89o1 t122 l1 (0 : Int) y2
    (fun (n30 : Int) (n31 : Int) (b32 : Bool) (b33 : Bool) =>
     some ([.one (.i .i64 (-1 : Int))], []))
    (fun (n34 : Int) (n35 : Int) (b36 : Bool) (v37 : SV) =>
     some ([.one (.i .i64 n34)], [])) KK y1 (0 : Int) SV.undef SV.undef
theorem te89 : ta89 tu122 = t89 := (by rw [tu122_eq] : ta89 tu122 = ta89 t122).trans (by kernel_rfl)
def tw89 (vs : List Vr) : Rs := ta89 tu122 (vL vs 0) (vI vs 1)
def tp89 (vs : List Vr) : Rs := tu89 (vL vs 0) (vI vs 1)
theorem tpw89 : tp89 = tw89 := funext fun vs => by unfold tp89 tw89; rw [tu89_eq, te89]
def th89 (xs : List DV) : Bool × List DV × List (List D) := gOf zr89 zo89 (argsT A89 tp89 xs)
def ta53 (t89 : List (List D) → Int → Rs) (n1 : Int) (l2 : List (List D)) (n3 : Int) : Rs :=
  chk (okR zr89 zo89 (t89 l2 n3)) <|
  let y1 := asI (resC (t89 l2 n3) 0 0)
  if decide (y1 < (0 : Int)) then
   some ([.one (.i .i64 (-1 : Int))], [])
  else
   some ([.one (.i .i64 y1)], [])
theorem te53 : ta53 tu89 = t53 := (by rw [tu89_eq] : ta53 tu89 = ta53 t89).trans (by kernel_rfl)
def tw53 (vs : List Vr) : Rs := ta53 tu89 (vI vs 0) (vL vs 1) (vI vs 2)
def tp53 (vs : List Vr) : Rs := tu53 (vI vs 0) (vL vs 1) (vI vs 2)
theorem tpw53 : tp53 = tw53 := funext fun vs => by unfold tp53 tw53; rw [tu53_eq, te53]
def th53 (xs : List DV) : Bool × List DV × List (List D) := gOf zr53 zo53 (argsT A53 tp53 xs)
theorem te54 : t54 = t54 := rfl
def tw54 (vs : List Vr) : Rs := t54 (vL vs 0) (vI vs 1)
def tp54 (vs : List Vr) : Rs := tu54 (vL vs 0) (vI vs 1)
theorem tpw54 : tp54 = tw54 := funext fun vs => by unfold tp54 tw54; rw [tu54_eq, te54]
def th54 (xs : List DV) : Bool × List DV × List (List D) := gOf zr54 zo54 (argsT A54 tp54 xs)
theorem te123 : t123 = t123 := rfl
def tw123 (vs : List Vr) : Rs := t123 (vI vs 0) (vS vs 1) (vI vs 2)
def tp123 (vs : List Vr) : Rs := tu123 (vI vs 0) (vS vs 1) (vI vs 2)
theorem tpw123 : tp123 = tw123 := funext fun vs => by unfold tp123 tw123; rw [tu123_eq, te123]
def th123 (xs : List DV) : Bool × List DV × List (List D) := gOf zr123 zo123 (argsT A123 tp123 xs)
def ta90 (t123 : Int → ByteArray → Int → Rs) (n1 : Int) (n2 : Int) (n3 : Int) (n4 : Int) (s5 : ByteArray) (n6 : Int) : Rs :=
  let y1 := t123 n4 s5 n6
  chk (okR zr123 zo123 y1) <|
  let y2 := asI (resC y1 0 0)
  if decide (y2 < (0 : Int)) then
   some ([.one (.i .i64 (-1 : Int))], [])
  else
   some ([.one (.i .i64 y2)], [])
theorem te90 : ta90 tu123 = t90 := (by rw [tu123_eq] : ta90 tu123 = ta90 t123).trans (by kernel_rfl)
def tw90 (vs : List Vr) : Rs := ta90 tu123 (vI vs 0) (vI vs 1) (vI vs 2) (vI vs 3) (vS vs 4) (vI vs 5)
def tp90 (vs : List Vr) : Rs := tu90 (vI vs 0) (vI vs 1) (vI vs 2) (vI vs 3) (vS vs 4) (vI vs 5)
theorem tpw90 : tp90 = tw90 := funext fun vs => by unfold tp90 tw90; rw [tu90_eq, te90]
def th90 (xs : List DV) : Bool × List DV × List (List D) := gOf zr90 zo90 (argsT A90 tp90 xs)
def la55o1 (t90 : Int → Int → Int → Int → ByteArray → Int → Rs) (l8 : List (List D)) (n10 : Int) (b12 : Bool) (q1 : Int → Int → Bool → Bool → Rs) (q2 : Int → Int → Bool → SV → Rs) : Nat → Int → Int → SV → SV → Rs
  | 0, _, _, _, _ => none
  | m + 1, n9, n11, v13, v14 =>
    let y1 := decide (n11 < (l8.length : Int))
    if y1 then
     let y2 := l8.getD n11.toNat []
     chk (decide (0 ≤ n11) && decide (n11 < l8.length) && isRow z114 y2) <|
     let y3 := t90 (asI (nthD y2 0)) (asI (nthD y2 1)) (asI (nthD y2 2)) (asI (nthD y2 3)) (asS (nthD y2 4)) n9
     chk (okR zr90 zo90 y3) <|
     let y4 := asI (resC y3 0 0)
     let y5 := decide (y4 < (0 : Int))
     if y5 then
      q1 y4 n11 y1 y5
     else
      la55o1 t90 l8 n10 b12 q1 q2 m y4 (w64 (n11 + (1 : Int))) (.d (.b y1)) (.d (.b y5))
    else
     q2 n9 n11 y1 (keepV [] v14)
def ta55 (t90 : Int → Int → Int → Int → ByteArray → Int → Rs) (l1 : List (List D)) (n2 : Int) : Rs :=
  let y1 := w64 (n2 - (l1.length : Int))
  let y2 := decide (y1 < (0 : Int))
  if y2 then
   some ([.one (.i .i64 (-1 : Int))], [])
  else
   la55o1 t90 l1 (0 : Int) y2
    (fun (n30 : Int) (n31 : Int) (b32 : Bool) (b33 : Bool) =>
     some ([.one (.i .i64 (-1 : Int))], []))
    (fun (n34 : Int) (n35 : Int) (b36 : Bool) (v37 : SV) =>
     some ([.one (.i .i64 n34)], [])) KK y1 (0 : Int) SV.undef SV.undef
theorem te55 : ta55 tu90 = t55 := (by rw [tu90_eq] : ta55 tu90 = ta55 t90).trans (by kernel_rfl)
def tw55 (vs : List Vr) : Rs := ta55 tu90 (vL vs 0) (vI vs 1)
def tp55 (vs : List Vr) : Rs := tu55 (vL vs 0) (vI vs 1)
theorem tpw55 : tp55 = tw55 := funext fun vs => by unfold tp55 tw55; rw [tu55_eq, te55]
def th55 (xs : List DV) : Bool × List DV × List (List D) := gOf zr55 zo55 (argsT A55 tp55 xs)
def ta22 (t53 : Int → List (List D) → Int → Rs) (t54 : List (List D) → Int → Rs) (t55 : List (List D) → Int → Rs) (n1 : Int) (l2 : List (List D)) (n3 : Int) (l4 : List (List D)) (l5 : List (List D)) (n6 : Int) : Rs :=
  let y1 := t53 n1 l2 n6
  chk (okR zr53 zo53 y1) <|
  let y2 := asI (resC y1 0 0)
  if decide (y2 < (0 : Int)) then
   some ([.one (.i .i64 (-1 : Int))], [])
  else
   let y3 := t54 l4 y2
   chk (okR zr54 zo54 y3) <|
   let y4 := asI (resC y3 0 0)
   if decide (y4 < (0 : Int)) then
    some ([.one (.i .i64 (-1 : Int))], [])
   else
    let y5 := t55 l5 y4
    chk (okR zr55 zo55 y5) <|
    let y6 := asI (resC y5 0 0)
    if decide (y6 < (0 : Int)) then
     some ([.one (.i .i64 (-1 : Int))], [])
    else
     some ([.one (.i .i64 y6)], [])
theorem te22 : ta22 tu53 tu54 tu55 = t22 := (by rw [tu53_eq, tu54_eq, tu55_eq] : ta22 tu53 tu54 tu55 = ta22 t53 t54 t55).trans (by kernel_rfl)
def tw22 (vs : List Vr) : Rs := ta22 tu53 tu54 tu55 (vI vs 0) (vL vs 1) (vI vs 2) (vL vs 3) (vL vs 4) (vI vs 5)
def tp22 (vs : List Vr) : Rs := tu22 (vI vs 0) (vL vs 1) (vI vs 2) (vL vs 3) (vL vs 4) (vI vs 5)
theorem tpw22 : tp22 = tw22 := funext fun vs => by unfold tp22 tw22; rw [tu22_eq, te22]
def th22 (xs : List DV) : Bool × List DV × List (List D) := gOf zr22 zo22 (argsT A22 tp22 xs)
def la26o1 (t22 : Int → List (List D) → Int → List (List D) → List (List D) → Int → Rs) (l8 : List (List D)) (n10 : Int) (b12 : Bool) (q1 : Int → Int → Bool → Bool → Rs) (q2 : Int → Int → Bool → SV → Rs) : Nat → Int → Int → SV → SV → Rs
  | 0, _, _, _, _ => none
  | m + 1, n9, n11, v13, v14 =>
    let y1 := decide (n11 < (l8.length : Int))
    if y1 then
     let y2 := l8.getD n11.toNat []
     chk (decide (0 ≤ n11) && decide (n11 < l8.length) && isRow z43 y2) <|
     let y3 := t22 (asI (nthD y2 0)) (asL (nthD y2 1)) (asI (nthD y2 2)) (asL (nthD y2 3)) (asL (nthD y2 4)) n9
     chk (okR zr22 zo22 y3) <|
     let y4 := asI (resC y3 0 0)
     let y5 := decide (y4 < (0 : Int))
     if y5 then
      q1 y4 n11 y1 y5
     else
      la26o1 t22 l8 n10 b12 q1 q2 m y4 (w64 (n11 + (1 : Int))) (.d (.b y1)) (.d (.b y5))
    else
     q2 n9 n11 y1 (keepV [] v14)
def ta26 (t22 : Int → List (List D) → Int → List (List D) → List (List D) → Int → Rs) (l1 : List (List D)) (n2 : Int) : Rs :=
  let y1 := w64 (n2 - (l1.length : Int))
  let y2 := decide (y1 < (0 : Int))
  if y2 then
   some ([.one (.i .i64 (-1 : Int))], [])
  else
   la26o1 t22 l1 (0 : Int) y2
    (fun (n30 : Int) (n31 : Int) (b32 : Bool) (b33 : Bool) =>
     some ([.one (.i .i64 (-1 : Int))], []))
    (fun (n34 : Int) (n35 : Int) (b36 : Bool) (v37 : SV) =>
     some ([.one (.i .i64 n34)], [])) KK y1 (0 : Int) SV.undef SV.undef
theorem te26 : ta26 tu22 = t26 := (by rw [tu22_eq] : ta26 tu22 = ta26 t22).trans (by kernel_rfl)
def tw26 (vs : List Vr) : Rs := ta26 tu22 (vL vs 0) (vI vs 1)
def tp26 (vs : List Vr) : Rs := tu26 (vL vs 0) (vI vs 1)
theorem tpw26 : tp26 = tw26 := funext fun vs => by unfold tp26 tw26; rw [tu26_eq, te26]
def th26 (xs : List DV) : Bool × List DV × List (List D) := gOf zr26 zo26 (argsT A26 tp26 xs)
theorem te145 : t145 = t145 := rfl
def tw145 (vs : List Vr) : Rs := t145 (vS vs 0) (vI vs 1)
def tp145 (vs : List Vr) : Rs := tu145 (vS vs 0) (vI vs 1)
theorem tpw145 : tp145 = tw145 := funext fun vs => by unfold tp145 tw145; rw [tu145_eq, te145]
def th145 (xs : List DV) : Bool × List DV × List (List D) := gOf zr145 zo145 (argsT A145 tp145 xs)
def la140o0 (t145 : ByteArray → Int → Rs) (l5 : List (List D)) (q1 : Int → Bool → List (List D) → Rs) : Nat → Int → SV → List (List D) → Rs
  | 0, _, _, _ => none
  | m + 1, n6, v7, l8 =>
    let y1 := decide (n6 < (l5.length : Int))
    if y1 then
     let y2 := l5.getD n6.toNat []
     chk (decide (0 ≤ n6) && decide (n6 < l5.length) && isRow z160 y2) <|
     let y3 := t145 (asS (nthD y2 0)) (asI (nthD y2 1))
     chk (okR zr145 zo145 y3) <|
     chk (decide (0 ≤ n6) && decide (n6 < l8.length)) <|
     chk (decide (2 ≤ 2 ∧ (n6.toNat) < l8.length)) <|
     la140o0 t145 l5 q1 m (w64 (n6 + (1 : Int))) (.d (.b y1)) (stR l8 (n6.toNat) 0 [.s (asS (resC y3 0 0)), .i .i64 (asI (resC y3 0 1))])
    else
     q1 n6 y1 l8
def ta140 (t145 : ByteArray → Int → Rs) (l1 : List (List D)) : Rs :=
  let y1 := (l1.length : Int)
  chk (decide (0 ≤ y1 ∧ y1 ≤ lim ∧ y1 = y1)) <|
  la140o0 t145 l1
   (fun (n16 : Int) (b17 : Bool) (l18 : List (List D)) =>
    some ([.one (.l l18)], [])) KK (0 : Int) SV.undef (List.replicate y1.toNat z129)
theorem te140 : ta140 tu145 = t140 := (by rw [tu145_eq] : ta140 tu145 = ta140 t145).trans (by kernel_rfl)
def tw140 (vs : List Vr) : Rs := ta140 tu145 (vL vs 0)
def tp140 (vs : List Vr) : Rs := tu140 (vL vs 0)
theorem tpw140 : tp140 = tw140 := funext fun vs => by unfold tp140 tw140; rw [tu140_eq, te140]
def th140 (xs : List DV) : Bool × List DV × List (List D) := gOf zr140 zo140 (argsT A140 tp140 xs)
def ta128 (t140 : List (List D) → Rs) (n1 : Int) (n2 : Int) (n3 : Int) (n4 : Int) (n5 : Int) (s6 : ByteArray) (l7 : List (List D)) (n8 : Int) (n9 : Int) : Rs :=
  chk (okR zr140 zo140 (t140 l7)) <|
  some ([.agg [.i .i64 n1, .i .i64 n2, .i .i64 n3, .i .i64 n4, .i .i64 n5, .s s6, .l (asL (resC (t140 l7) 0 0)), .i .i64 n8, .i .i64 n9]], [])
theorem te128 : ta128 tu140 = t128 := (by rw [tu140_eq] : ta128 tu140 = ta128 t140).trans (by kernel_rfl)
def tw128 (vs : List Vr) : Rs := ta128 tu140 (vI vs 0) (vI vs 1) (vI vs 2) (vI vs 3) (vI vs 4) (vS vs 5) (vL vs 6) (vI vs 7) (vI vs 8)
def tp128 (vs : List Vr) : Rs := tu128 (vI vs 0) (vI vs 1) (vI vs 2) (vI vs 3) (vI vs 4) (vS vs 5) (vL vs 6) (vI vs 7) (vI vs 8)
theorem tpw128 : tp128 = tw128 := funext fun vs => by unfold tp128 tw128; rw [tu128_eq, te128]
def th128 (xs : List DV) : Bool × List DV × List (List D) := gOf zr128 zo128 (argsT A128 tp128 xs)
def la96o0 (t128 : Int → Int → Int → Int → Int → ByteArray → List (List D) → Int → Int → Rs) (l5 : List (List D)) (q1 : Int → Bool → List (List D) → Rs) : Nat → Int → SV → List (List D) → Rs
  | 0, _, _, _ => none
  | m + 1, n6, v7, l8 =>
    let y1 := decide (n6 < (l5.length : Int))
    if y1 then
     let y2 := l5.getD n6.toNat []
     chk (decide (0 ≤ n6) && decide (n6 < l5.length) && isRow z142 y2) <|
     let y3 := t128 (asI (nthD y2 0)) (asI (nthD y2 1)) (asI (nthD y2 2)) (asI (nthD y2 3)) (asI (nthD y2 4)) (asS (nthD y2 5)) (asL (nthD y2 6)) (asI (nthD y2 7)) (asI (nthD y2 8))
     chk (okR zr128 zo128 y3) <|
     chk (decide (0 ≤ n6) && decide (n6 < l8.length)) <|
     chk (decide (9 ≤ 9 ∧ (n6.toNat) < l8.length)) <|
     la96o0 t128 l5 q1 m (w64 (n6 + (1 : Int))) (.d (.b y1)) (stR l8 (n6.toNat) 0 [.i .i64 (asI (resC y3 0 0)), .i .i64 (asI (resC y3 0 1)), .i .i64 (asI (resC y3 0 2)), .i .i64 (asI (resC y3 0 3)), .i .i64 (asI (resC y3 0 4)), .s (asS (resC y3 0 5)), .l (asL (resC y3 0 6)), .i .i64 (asI (resC y3 0 7)), .i .i64 (asI (resC y3 0 8))])
    else
     q1 n6 y1 l8
def ta96 (t128 : Int → Int → Int → Int → Int → ByteArray → List (List D) → Int → Int → Rs) (l1 : List (List D)) : Rs :=
  let y1 := (l1.length : Int)
  chk (decide (0 ≤ y1 ∧ y1 ≤ lim ∧ y1 = y1)) <|
  la96o0 t128 l1
   (fun (n16 : Int) (b17 : Bool) (l18 : List (List D)) =>
    some ([.one (.l l18)], [])) KK (0 : Int) SV.undef (List.replicate y1.toNat z64)
theorem te96 : ta96 tu128 = t96 := (by rw [tu128_eq] : ta96 tu128 = ta96 t128).trans (by kernel_rfl)
def tw96 (vs : List Vr) : Rs := ta96 tu128 (vL vs 0)
def tp96 (vs : List Vr) : Rs := tu96 (vL vs 0)
theorem tpw96 : tp96 = tw96 := funext fun vs => by unfold tp96 tw96; rw [tu96_eq, te96]
def th96 (xs : List DV) : Bool × List DV × List (List D) := gOf zr96 zo96 (argsT A96 tp96 xs)
def ta60 (t96 : List (List D) → Rs) (n1 : Int) (l2 : List (List D)) : Rs :=
  chk (okR zr96 zo96 (t96 l2)) <|
  some ([.agg [.i .i64 n1, .l (asL (resC (t96 l2) 0 0))]], [])
theorem te60 : ta60 tu96 = t60 := (by rw [tu96_eq] : ta60 tu96 = ta60 t96).trans (by kernel_rfl)
def tw60 (vs : List Vr) : Rs := ta60 tu96 (vI vs 0) (vL vs 1)
def tp60 (vs : List Vr) : Rs := tu60 (vI vs 0) (vL vs 1)
theorem tpw60 : tp60 = tw60 := funext fun vs => by unfold tp60 tw60; rw [tu60_eq, te60]
def th60 (xs : List DV) : Bool × List DV × List (List D) := gOf zr60 zo60 (argsT A60 tp60 xs)
theorem te97 : t97 = t97 := rfl
def tw97 (vs : List Vr) : Rs := t97 (vI vs 0) (vI vs 1) (vI vs 2) (vI vs 3) (vI vs 4)
def tp97 (vs : List Vr) : Rs := tu97 (vI vs 0) (vI vs 1) (vI vs 2) (vI vs 3) (vI vs 4)
theorem tpw97 : tp97 = tw97 := funext fun vs => by unfold tp97 tw97; rw [tu97_eq, te97]
def th97 (xs : List DV) : Bool × List DV × List (List D) := gOf zr97 zo97 (argsT A97 tp97 xs)
def la61o0 (t97 : Int → Int → Int → Int → Int → Rs) (l5 : List (List D)) (q1 : Int → Bool → List (List D) → Rs) : Nat → Int → SV → List (List D) → Rs
  | 0, _, _, _ => none
  | m + 1, n6, v7, l8 =>
    let y1 := decide (n6 < (l5.length : Int))
    if y1 then
     let y2 := l5.getD n6.toNat []
     chk (decide (0 ≤ n6) && decide (n6 < l5.length) && isRow z121 y2) <|
     let y3 := t97 (asI (nthD y2 0)) (asI (nthD y2 1)) (asI (nthD y2 2)) (asI (nthD y2 3)) (asI (nthD y2 4))
     chk (okR zr97 zo97 y3) <|
     chk (decide (0 ≤ n6) && decide (n6 < l8.length)) <|
     chk (decide (5 ≤ 5 ∧ (n6.toNat) < l8.length)) <|
     la61o0 t97 l5 q1 m (w64 (n6 + (1 : Int))) (.d (.b y1)) (stR l8 (n6.toNat) 0 [.i .i64 (asI (resC y3 0 0)), .i .i64 (asI (resC y3 0 1)), .i .i64 (asI (resC y3 0 2)), .i .i64 (asI (resC y3 0 3)), .i .i64 (asI (resC y3 0 4))])
    else
     q1 n6 y1 l8
def ta61 (t97 : Int → Int → Int → Int → Int → Rs) (l1 : List (List D)) : Rs :=
  let y1 := (l1.length : Int)
  chk (decide (0 ≤ y1 ∧ y1 ≤ lim ∧ y1 = y1)) <|
  la61o0 t97 l1
   (fun (n16 : Int) (b17 : Bool) (l18 : List (List D)) =>
    some ([.one (.l l18)], [])) KK (0 : Int) SV.undef (List.replicate y1.toNat z90)
theorem te61 : ta61 tu97 = t61 := (by rw [tu97_eq] : ta61 tu97 = ta61 t97).trans (by kernel_rfl)
def tw61 (vs : List Vr) : Rs := ta61 tu97 (vL vs 0)
def tp61 (vs : List Vr) : Rs := tu61 (vL vs 0)
theorem tpw61 : tp61 = tw61 := funext fun vs => by unfold tp61 tw61; rw [tu61_eq, te61]
def th61 (xs : List DV) : Bool × List DV × List (List D) := gOf zr61 zo61 (argsT A61 tp61 xs)
theorem te129 : t129 = t129 := rfl
def tw129 (vs : List Vr) : Rs := t129 (vI vs 0) (vS vs 1)
def tp129 (vs : List Vr) : Rs := tu129 (vI vs 0) (vS vs 1)
theorem tpw129 : tp129 = tw129 := funext fun vs => by unfold tp129 tw129; rw [tu129_eq, te129]
def th129 (xs : List DV) : Bool × List DV × List (List D) := gOf zr129 zo129 (argsT A129 tp129 xs)
def ta98 (t129 : Int → ByteArray → Rs) (n1 : Int) (n2 : Int) (n3 : Int) (n4 : Int) (s5 : ByteArray) : Rs :=
  chk (okR zr129 zo129 (t129 n4 s5)) <|
  some ([.agg [.i .i64 n1, .i .i64 n2, .i .i64 n3, .i .i64 (asI (resC (t129 n4 s5) 0 0)), .s (asS (resC (t129 n4 s5) 0 1))]], [])
theorem te98 : ta98 tu129 = t98 := (by rw [tu129_eq] : ta98 tu129 = ta98 t129).trans (by kernel_rfl)
def tw98 (vs : List Vr) : Rs := ta98 tu129 (vI vs 0) (vI vs 1) (vI vs 2) (vI vs 3) (vS vs 4)
def tp98 (vs : List Vr) : Rs := tu98 (vI vs 0) (vI vs 1) (vI vs 2) (vI vs 3) (vS vs 4)
theorem tpw98 : tp98 = tw98 := funext fun vs => by unfold tp98 tw98; rw [tu98_eq, te98]
def th98 (xs : List DV) : Bool × List DV × List (List D) := gOf zr98 zo98 (argsT A98 tp98 xs)
def la62o0 (t98 : Int → Int → Int → Int → ByteArray → Rs) (l5 : List (List D)) (q1 : Int → Bool → List (List D) → Rs) : Nat → Int → SV → List (List D) → Rs
  | 0, _, _, _ => none
  | m + 1, n6, v7, l8 =>
    let y1 := decide (n6 < (l5.length : Int))
    if y1 then
     let y2 := l5.getD n6.toNat []
     chk (decide (0 ≤ n6) && decide (n6 < l5.length) && isRow z114 y2) <|
     let y3 := t98 (asI (nthD y2 0)) (asI (nthD y2 1)) (asI (nthD y2 2)) (asI (nthD y2 3)) (asS (nthD y2 4))
     chk (okR zr98 zo98 y3) <|
     chk (decide (0 ≤ n6) && decide (n6 < l8.length)) <|
     chk (decide (5 ≤ 5 ∧ (n6.toNat) < l8.length)) <|
     la62o0 t98 l5 q1 m (w64 (n6 + (1 : Int))) (.d (.b y1)) (stR l8 (n6.toNat) 0 [.i .i64 (asI (resC y3 0 0)), .i .i64 (asI (resC y3 0 1)), .i .i64 (asI (resC y3 0 2)), .i .i64 (asI (resC y3 0 3)), .s (asS (resC y3 0 4))])
    else
     q1 n6 y1 l8
def ta62 (t98 : Int → Int → Int → Int → ByteArray → Rs) (l1 : List (List D)) : Rs :=
  let y1 := (l1.length : Int)
  chk (decide (0 ≤ y1 ∧ y1 ≤ lim ∧ y1 = y1)) <|
  la62o0 t98 l1
   (fun (n16 : Int) (b17 : Bool) (l18 : List (List D)) =>
    some ([.one (.l l18)], [])) KK (0 : Int) SV.undef (List.replicate y1.toNat z81)
theorem te62 : ta62 tu98 = t62 := (by rw [tu98_eq] : ta62 tu98 = ta62 t98).trans (by kernel_rfl)
def tw62 (vs : List Vr) : Rs := ta62 tu98 (vL vs 0)
def tp62 (vs : List Vr) : Rs := tu62 (vL vs 0)
theorem tpw62 : tp62 = tw62 := funext fun vs => by unfold tp62 tw62; rw [tu62_eq, te62]
def th62 (xs : List DV) : Bool × List DV × List (List D) := gOf zr62 zo62 (argsT A62 tp62 xs)
def ta24 (t60 : Int → List (List D) → Rs) (t61 : List (List D) → Rs) (t62 : List (List D) → Rs) (n1 : Int) (l2 : List (List D)) (n3 : Int) (l4 : List (List D)) (l5 : List (List D)) : Rs :=
  chk (okR zr60 zo60 (t60 n1 l2)) <|
  chk (okR zr61 zo61 (t61 l4)) <|
  chk (okR zr62 zo62 (t62 l5)) <|
  some ([.agg [.i .i64 (asI (resC (t60 n1 l2) 0 0)), .l (asL (resC (t60 n1 l2) 0 1)), .i .i64 n3, .l (asL (resC (t61 l4) 0 0)), .l (asL (resC (t62 l5) 0 0))]], [])
theorem te24 : ta24 tu60 tu61 tu62 = t24 := (by rw [tu60_eq, tu61_eq, tu62_eq] : ta24 tu60 tu61 tu62 = ta24 t60 t61 t62).trans (by kernel_rfl)
def tw24 (vs : List Vr) : Rs := ta24 tu60 tu61 tu62 (vI vs 0) (vL vs 1) (vI vs 2) (vL vs 3) (vL vs 4)
def tp24 (vs : List Vr) : Rs := tu24 (vI vs 0) (vL vs 1) (vI vs 2) (vL vs 3) (vL vs 4)
theorem tpw24 : tp24 = tw24 := funext fun vs => by unfold tp24 tw24; rw [tu24_eq, te24]
def th24 (xs : List DV) : Bool × List DV × List (List D) := gOf zr24 zo24 (argsT A24 tp24 xs)
def la28o0 (t24 : Int → List (List D) → Int → List (List D) → List (List D) → Rs) (l5 : List (List D)) (q1 : Int → Bool → List (List D) → Rs) : Nat → Int → SV → List (List D) → Rs
  | 0, _, _, _ => none
  | m + 1, n6, v7, l8 =>
    let y1 := decide (n6 < (l5.length : Int))
    if y1 then
     let y2 := l5.getD n6.toNat []
     chk (decide (0 ≤ n6) && decide (n6 < l5.length) && isRow z43 y2) <|
     let y3 := t24 (asI (nthD y2 0)) (asL (nthD y2 1)) (asI (nthD y2 2)) (asL (nthD y2 3)) (asL (nthD y2 4))
     chk (okR zr24 zo24 y3) <|
     chk (decide (0 ≤ n6) && decide (n6 < l8.length)) <|
     chk (decide (5 ≤ 5 ∧ (n6.toNat) < l8.length)) <|
     la28o0 t24 l5 q1 m (w64 (n6 + (1 : Int))) (.d (.b y1)) (stR l8 (n6.toNat) 0 [.i .i64 (asI (resC y3 0 0)), .l (asL (resC y3 0 1)), .i .i64 (asI (resC y3 0 2)), .l (asL (resC y3 0 3)), .l (asL (resC y3 0 4))])
    else
     q1 n6 y1 l8
def ta28 (t24 : Int → List (List D) → Int → List (List D) → List (List D) → Rs) (l1 : List (List D)) : Rs :=
  let y1 := (l1.length : Int)
  chk (decide (0 ≤ y1 ∧ y1 ≤ lim ∧ y1 = y1)) <|
  la28o0 t24 l1
   (fun (n16 : Int) (b17 : Bool) (l18 : List (List D)) =>
    some ([.one (.l l18)], [])) KK (0 : Int) SV.undef (List.replicate y1.toNat z28)
theorem te28 : ta28 tu24 = t28 := (by rw [tu24_eq] : ta28 tu24 = ta28 t24).trans (by kernel_rfl)
def tw28 (vs : List Vr) : Rs := ta28 tu24 (vL vs 0)
def tp28 (vs : List Vr) : Rs := tu28 (vL vs 0)
theorem tpw28 : tp28 = tw28 := funext fun vs => by unfold tp28 tw28; rw [tu28_eq, te28]
def th28 (xs : List DV) : Bool × List DV × List (List D) := gOf zr28 zo28 (argsT A28 tp28 xs)
theorem te57 : t57 = t57 := rfl
def tw57 (vs : List Vr) : Rs := t57 (vI vs 0) (vI vs 1) (vI vs 2)
def tp57 (vs : List Vr) : Rs := tu57 (vI vs 0) (vI vs 1) (vI vs 2)
theorem tpw57 : tp57 = tw57 := funext fun vs => by unfold tp57 tw57; rw [tu57_eq, te57]
def th57 (xs : List DV) : Bool × List DV × List (List D) := gOf zr57 zo57 (argsT A57 tp57 xs)
theorem te139 : t139 = t139 := rfl
def tw139 (vs : List Vr) : Rs := t139 (vI vs 0)
def tp139 (vs : List Vr) : Rs := tu139 (vI vs 0)
theorem tpw139 : tp139 = tw139 := funext fun vs => by unfold tp139 tw139; rw [tu139_eq, te139]
def th139 (xs : List DV) : Bool × List DV × List (List D) := gOf zr139 zo139 (argsT A139 tp139 xs)
def la124o1 (t57 : Int → Int → Int → Rs) (t139 : Int → Rs) (s6 : ByteArray) (b7 : Bool) (b9 : Bool) (q1 : Int → Bool → Bool → Rs) (q2 : Int → Bool → SV → Rs) : Nat → Int → SV → SV → Rs
  | 0, _, _, _ => none
  | m + 1, n8, v10, v11 =>
    let y1 := decide (n8 < (s6.size : Int))
    if y1 then
     chk (decide (0 ≤ n8 ∧ n8 < s6.size)) <|
     let y2 := ((s6.get! n8.toNat).toNat) != (47 : Int)
     chk ((decide (0 ≤ n8 ∧ n8 < s6.size)) || !y2) <|
     let y3 := t139 ((s6.get! n8.toNat).toNat)
     chk ((okR zr139 zo139 y3) || !y2) <|
     let y4 := y2 && (!(asB (resC y3 0 0)))
     if y4 then
      q1 n8 y1 y4
     else
      la124o1 t57 t139 s6 b7 b9 q1 q2 m (w64 (n8 + (1 : Int))) (.d (.b y1)) (.d (.b y4))
    else
     q2 n8 y1 (keepV [] v11)
def ta124 (t57 : Int → Int → Int → Rs) (t139 : Int → Rs) (s1 : ByteArray) : Rs :=
  let y1 := t57 (s1.size : Int) (1 : Int) (60 : Int)
  chk (okR zr57 zo57 y1) <|
  let y2 := !(asB (resC y1 0 0))
  if y2 then
   some ([.one (.b false)], [])
  else
   la124o1 t57 t139 s1 false y2
    (fun (n24 : Int) (b25 : Bool) (b26 : Bool) =>
     some ([.one (.b false)], []))
    (fun (n27 : Int) (b28 : Bool) (v29 : SV) =>
     some ([.one (.b true)], [])) KK (0 : Int) SV.undef SV.undef
theorem te124 : ta124 tu57 tu139 = t124 := (by rw [tu57_eq, tu139_eq] : ta124 tu57 tu139 = ta124 t57 t139).trans (by kernel_rfl)
def tw124 (vs : List Vr) : Rs := ta124 tu57 tu139 (vS vs 0)
def tp124 (vs : List Vr) : Rs := tu124 (vS vs 0)
theorem tpw124 : tp124 = tw124 := funext fun vs => by unfold tp124 tw124; rw [tu124_eq, te124]
def th124 (xs : List DV) : Bool × List DV × List (List D) := gOf zr124 zo124 (argsT A124 tp124 xs)
def la125o1 (t57 : Int → Int → Int → Rs) (t139 : Int → Rs) (s6 : ByteArray) (b7 : Bool) (b9 : Bool) (q1 : Int → Bool → Bool → Rs) (q2 : Int → Bool → SV → Rs) : Nat → Int → SV → SV → Rs
  | 0, _, _, _ => none
  | m + 1, n8, v10, v11 =>
    let y1 := decide (n8 < (s6.size : Int))
    if y1 then
     chk (decide (0 ≤ n8 ∧ n8 < s6.size)) <|
     let y2 := t139 ((s6.get! n8.toNat).toNat)
     chk (okR zr139 zo139 y2) <|
     let y3 := !(asB (resC y2 0 0))
     if y3 then
      q1 n8 y1 y3
     else
      la125o1 t57 t139 s6 b7 b9 q1 q2 m (w64 (n8 + (1 : Int))) (.d (.b y1)) (.d (.b y3))
    else
     q2 n8 y1 (keepV [] v11)
def ta125 (t57 : Int → Int → Int → Rs) (t139 : Int → Rs) (s1 : ByteArray) : Rs :=
  let y1 := t57 (s1.size : Int) (1 : Int) (8 : Int)
  chk (okR zr57 zo57 y1) <|
  let y2 := ((!(asB (resC y1 0 0))) || (s1.toList == (⟨#[46]⟩ : ByteArray).toList)) || (s1.toList == (⟨#[46, 46]⟩ : ByteArray).toList)
  if y2 then
   some ([.one (.b false)], [])
  else
   la125o1 t57 t139 s1 false y2
    (fun (n24 : Int) (b25 : Bool) (b26 : Bool) =>
     some ([.one (.b false)], []))
    (fun (n27 : Int) (b28 : Bool) (v29 : SV) =>
     some ([.one (.b true)], [])) KK (0 : Int) SV.undef SV.undef
theorem te125 : ta125 tu57 tu139 = t125 := (by rw [tu57_eq, tu139_eq] : ta125 tu57 tu139 = ta125 t57 t139).trans (by kernel_rfl)
def tw125 (vs : List Vr) : Rs := ta125 tu57 tu139 (vS vs 0)
def tp125 (vs : List Vr) : Rs := tu125 (vS vs 0)
theorem tpw125 : tp125 = tw125 := funext fun vs => by unfold tp125 tw125; rw [tu125_eq, te125]
def th125 (xs : List DV) : Bool × List DV × List (List D) := gOf zr125 zo125 (argsT A125 tp125 xs)
theorem te126 : t126 = t126 := rfl
def tw126 (vs : List Vr) : Rs := t126 (vI vs 0) (vL vs 1) (vI vs 2)
def tp126 (vs : List Vr) : Rs := tu126 (vI vs 0) (vL vs 1) (vI vs 2)
theorem tpw126 : tp126 = tw126 := funext fun vs => by unfold tp126 tw126; rw [tu126_eq, te126]
def th126 (xs : List DV) : Bool × List DV × List (List D) := gOf zr126 zo126 (argsT A126 tp126 xs)
def la91o5 (t57 : Int → Int → Int → Rs) (t124 : ByteArray → Rs) (t125 : ByteArray → Rs) (t126 : Int → List (List D) → Int → Rs) (n43 : Int) (l44 : List (List D)) (n45 : Int) (n46 : Int) (n47 : Int) (n48 : Int) (n49 : Int) (s50 : ByteArray) (l51 : List (List D)) (n52 : Int) (n53 : Int) (b54 : Bool) (b55 : Bool) (b57 : Bool) (n58 : Int) (b59 : Bool) (b60 : Bool) (b61 : Bool) (b62 : Bool) (n65 : Int) (l66 : List (List D)) (n67 : Int) (n68 : Int) (n69 : Int) (n70 : Int) (n71 : Int) (s72 : ByteArray) (l73 : List (List D)) (n74 : Int) (n75 : Int) (q1 : Int → Bool → Bool → ByteArray → Int → Rs) (q2 : Int → Bool → SV → Rs) : Nat → Int → SV → SV → Rs
  | 0, _, _, _ => none
  | m + 1, n56, v63, v64 =>
    let y1 := decide (n56 < (l73.length : Int))
    if y1 then
     let y2 := l73.getD n56.toNat []
     chk (decide (0 ≤ n56) && decide (n56 < l73.length) && isRow z129 y2) <|
     let y3 := asS (nthD y2 0)
     let y4 := t125 y3
     chk (okR zr125 zo125 y4) <|
     let y5 := w64 (n56 - (1 : Int))
     let y6 := l73.getD y5.toNat []
     let y7 := !(asB (resC y4 0 0))
     let y8 := decide (n56 > (0 : Int))
     chk ((decide (0 ≤ y5) && decide (y5 < l73.length) && isRow z129 y6) || !((!y7) && y8)) <|
     let y9 := asI (nthD y2 1)
     let y10 := t126 n65 l66 y9
     let y11 := (y7 || (y8 && (!(Op.bytesLess (asS (nthD y6 0)).toList y3.toList)))) || (y9 == (1 : Int))
     chk ((okR zr126 zo126 y10) || !(!y11)) <|
     let y12 := y11 || (decide ((asI (resC y10 0 0)) < (0 : Int)))
     if y12 then
      q1 n56 y1 y12 y3 y9
     else
      la91o5 t57 t124 t125 t126 n43 l44 n45 n46 n47 n48 n49 s50 l51 n52 n53 b54 b55 b57 n58 b59 b60 b61 b62 n65 l66 n67 n68 n69 n70 n71 s72 l73 n74 n75 q1 q2 m (w64 (n56 + (1 : Int))) (.d (.b y1)) (.d (.b y12))
    else
     q2 n56 y1 (keepV [128, 192] v64)
def ta91 (t57 : Int → Int → Int → Rs) (t124 : ByteArray → Rs) (t125 : ByteArray → Rs) (t126 : Int → List (List D) → Int → Rs) (n1 : Int) (l2 : List (List D)) (n3 : Int) (n4 : Int) (n5 : Int) (n6 : Int) (n7 : Int) (s8 : ByteArray) (l9 : List (List D)) (n10 : Int) (n11 : Int) : Rs :=
  let y1 := t57 n5 (0 : Int) (2047 : Int)
  chk (okR zr57 zo57 y1) <|
  let y2 := t57 n6 (0 : Int) (1000 : Int)
  let y3 := !(asB (resC y1 0 0))
  chk ((okR zr57 zo57 y2) || !(!y3)) <|
  let y4 := t57 n7 (0 : Int) (1000 : Int)
  let y5 := y3 || (!(asB (resC y2 0 0)))
  chk ((okR zr57 zo57 y4) || !(!y5)) <|
  let y6 := y5 || (!(asB (resC y4 0 0)))
  if y6 then
   some ([.one (.b false)], [])
  else
   let y7 := n4 == (1 : Int)
   if y7 then
    let y8 := (((l9.length : Int) == (0 : Int)) && (n10 == (0 : Int))) && (n11 == (0 : Int))
    some ([.one (.b (y8 && (decide ((s8.size : Int) ≤ (64 : Int)))))], [])
   else
    let y9 := n4 == (3 : Int)
    if y9 then
     let y10 := (((l9.length : Int) == (0 : Int)) && (n10 == (0 : Int))) && (n11 == (0 : Int))
     chk ((okR zr124 zo124 (t124 s8)) || !y10) <|
     some ([.one (.b ((y10 && (asB (resC (t124 s8) 0 0))) && (n5 == (511 : Int))))], [])
    else
     let y11 := n4 == (2 : Int)
     if y11 then
      let y12 := t57 n10 (0 : Int) (400 : Int)
      let y13 := (!(s8.toList == (⟨#[]⟩ : ByteArray).toList)) || (decide ((l9.length : Int) > (12 : Int)))
      chk ((okR zr57 zo57 y12) || !(!y13)) <|
      let y14 := t57 n11 (0 : Int) (24 : Int)
      let y15 := y13 || (!(asB (resC y12 0 0)))
      chk ((okR zr57 zo57 y14) || !(!y15)) <|
      let y16 := y15 || (!(asB (resC y14 0 0)))
      if y16 then
       some ([.one (.b false)], [])
      else
       let y17 := (((l9.length : Int) == (0 : Int)) && (n10 == (0 : Int))) && (n11 == (0 : Int))
       la91o5 t57 t124 t125 t126 n1 l2 n3 n4 n5 n6 n7 s8 l9 n10 n11 false y17 y6 n4 y7 y9 y11 y16 n1 l2 n3 n4 n5 n6 n7 s8 l9 n10 n11
        (fun (n117 : Int) (b118 : Bool) (b119 : Bool) (s120 : ByteArray) (n121 : Int) =>
         some ([.one (.b false)], []))
        (fun (n122 : Int) (b123 : Bool) (v124 : SV) =>
         some ([.one (.b true)], [])) KK (0 : Int) SV.undef SV.undef
     else
      some ([.one (.b false)], [])
theorem te91 : ta91 tu57 tu124 tu125 tu126 = t91 := (by rw [tu57_eq, tu124_eq, tu125_eq, tu126_eq] : ta91 tu57 tu124 tu125 tu126 = ta91 t57 t124 t125 t126).trans (by kernel_rfl)
def tw91 (vs : List Vr) : Rs := ta91 tu57 tu124 tu125 tu126 (vI vs 0) (vL vs 1) (vI vs 2) (vI vs 3) (vI vs 4) (vI vs 5) (vI vs 6) (vS vs 7) (vL vs 8) (vI vs 9) (vI vs 10)
def tp91 (vs : List Vr) : Rs := tu91 (vI vs 0) (vL vs 1) (vI vs 2) (vI vs 3) (vI vs 4) (vI vs 5) (vI vs 6) (vS vs 7) (vL vs 8) (vI vs 9) (vI vs 10)
theorem tpw91 : tp91 = tw91 := funext fun vs => by unfold tp91 tw91; rw [tu91_eq, te91]
def th91 (xs : List DV) : Bool × List DV × List (List D) := gOf zr91 zo91 (argsT A91 tp91 xs)
def la92o6 (t126 : Int → List (List D) → Int → Rs) (n379 : Int) (l380 : List (List D)) (n381 : Int) (n382 : Int) (n383 : Int) (n384 : Int) (b387 : Bool) (b388 : Bool) (b389 : Bool) (b390 : Bool) (n393 : Int) (l394 : List (List D)) (q1 : Int → SV → Bool → SV → List (List D) → List (List D) → Rs) : Nat → Int → SV → SV → SV → List (List D) → List (List D) → Rs
  | 0, _, _, _, _, _, _ => none
  | m + 1, n385, v386, v391, v392, l395, l396 =>
    let y1 := l394.getD n384.toNat []
    chk (decide (0 ≤ n384) && decide (n384 < l394.length) && isRow z64 y1) <|
    let y2 := decide (n385 < ((asL (nthD y1 6)).length : Int))
    if y2 then
     let y3 := l394.getD n384.toNat []
     chk (decide (0 ≤ n384) && decide (n384 < l394.length) && isRow z64 y3) <|
     let y4 := asL (nthD y3 6)
     let y5 := y4.getD n385.toNat []
     chk (decide (0 ≤ n385) && decide (n385 < y4.length) && isRow z129 y5) <|
     let y6 := t126 n393 l394 (asI (nthD y5 1))
     chk (okR zr126 zo126 y6) <|
     let k1 := fun (l397 : List (List D)) (l398 : List (List D)) =>
      let y7 := asI (resC y6 0 0)
      let y8 := decide (y7 ≥ (0 : Int))
      la92o6 t126 n379 l380 n381 n382 n383 n384 b387 b388 b389 b390 n393 l394 q1 m (w64 (n385 + (1 : Int))) (.d (.i .i64 y7)) (.d (.b y2)) (.d (.b y8)) l397 l398
     let y9 := asI (resC y6 0 0)
     let y10 := decide (y9 ≥ (0 : Int))
     if y10 then
      chk (decide (0 ≤ y9) && decide (y9 < l395.length)) <|
      let y11 := y9.toNat
      chk (decide (1 ≤ 1 ∧ y11 < l395.length)) <|
      chk (decide (0 ≤ y9) && decide (y9 < l396.length)) <|
      let y12 := y9.toNat
      chk (decide (1 ≤ 1 ∧ y12 < l396.length)) <|
      k1 (stR l395 y11 0 [.b true]) (stR l396 y12 0 [.b true])
     else
      k1 l395 l396
    else
     q1 n385 (keepV [128, 960, 1216] v386) y2 (keepV [128, 960, 1216] v392) l395 l396
def la92o3 (t126 : Int → List (List D) → Int → Rs) (n341 : Int) (l342 : List (List D)) (n343 : Int) (n344 : Int) (n345 : Int) (b349 : Bool) (b350 : Bool) (n355 : Int) (l356 : List (List D)) (q1 : Int → SV → SV → Bool → SV → SV → SV → List (List D) → List (List D) → Rs) : Nat → Int → SV → SV → SV → SV → SV → SV → List (List D) → List (List D) → Rs
  | 0, _, _, _, _, _, _, _, _, _ => none
  | m + 1, n346, v347, v348, v351, v352, v353, v354, l357, l358 =>
    let y1 := decide (n346 < (l356.length : Int))
    if y1 then
     chk (decide (0 ≤ n346) && decide (n346 < l358.length)) <|
     let y2 := l358.getD (n346.toNat) []
     chk (decide (1 ≤ y2.length) && isF z4 0 y2) <|
     let y3 := !(asB (nthD y2 0))
     if y3 then
      la92o3 t126 n341 l342 n343 n344 n345 b349 b350 n355 l356 q1 m (w64 (n346 + (1 : Int))) (keepV [128, 960, 1216] v347) (keepV [128, 960, 1216] v348) (.d (.b y1)) (.d (.b y3)) (keepV [128, 960, 1216] v353) (keepV [128, 960, 1216] v354) l357 l358
     else
      la92o6 t126 n341 l342 n343 n344 n345 n346 b349 b350 y1 y3 n355 l356
       (fun (n423 : Int) (v424 : SV) (b425 : Bool) (v426 : SV) (l427 : List (List D)) (l428 : List (List D)) =>
        la92o3 t126 n341 l342 n343 n344 n345 b349 b350 n355 l356 q1 m (w64 (n346 + (1 : Int))) (.d (.i .i64 n423)) (keepV [128, 960, 1216] v424) (.d (.b y1)) (.d (.b y3)) (.d (.b b425)) (keepV [128, 960, 1216] v426) l427 l428) KK (0 : Int) v348 v353 v354 l357 l358
    else
     q1 n346 (keepV [128, 960, 1216] v347) (keepV [128, 960, 1216] v348) y1 (keepV [128, 960, 1216] v352) (keepV [128, 960, 1216] v353) (keepV [128, 960, 1216] v354) l357 l358
def la92o1 (t126 : Int → List (List D) → Int → Rs) (n235 : Int) (l236 : List (List D)) (n237 : Int) (n238 : Int) (b243 : Bool) (n249 : Int) (l250 : List (List D)) (q1 : Int → SV → SV → SV → Bool → SV → SV → SV → SV → List (List D) → List (List D) → Rs) : Nat → Int → SV → SV → SV → SV → SV → SV → SV → SV → List (List D) → List (List D) → Rs
  | 0, _, _, _, _, _, _, _, _, _, _, _ => none
  | m + 1, n239, v240, v241, v242, v244, v245, v246, v247, v248, l251, l252 =>
    let y1 := decide (n239 < (l250.length : Int))
    if y1 then
     la92o3 t126 n235 l236 n237 n238 n239 b243 y1 n249 l250
      (fun (n474 : Int) (v475 : SV) (v476 : SV) (b477 : Bool) (v478 : SV) (v479 : SV) (v480 : SV) (l481 : List (List D)) (l482 : List (List D)) =>
       la92o1 t126 n235 l236 n237 n238 b243 n249 l250 q1 m (w64 (n239 + (1 : Int))) (.d (.i .i64 n474)) (keepV [128, 960, 1216] v475) (keepV [128, 960, 1216] v476) (.d (.b y1)) (.d (.b b477)) (keepV [128, 960, 1216] v478) (keepV [128, 960, 1216] v479) (keepV [128, 960, 1216] v480) l481 l482) KK (0 : Int) v241 v242 v245 v246 v247 v248 l251 l252
    else
     q1 n239 (keepV [128, 960, 1216] v240) (keepV [128, 960, 1216] v241) (keepV [128, 960, 1216] v242) y1 (keepV [128, 960, 1216] v245) (keepV [128, 960, 1216] v246) (keepV [128, 960, 1216] v247) (keepV [128, 960, 1216] v248) l251 l252
def ta92 (t126 : Int → List (List D) → Int → Rs) (n1 : Int) (l2 : List (List D)) (n3 : Int) : Rs :=
  let y1 := (l2.length : Int)
  chk (decide (0 ≤ y1 ∧ y1 ≤ lim ∧ y1 = y1)) <|
  let y2 := (l2.length : Int)
  chk (decide (0 ≤ y2 ∧ y2 ≤ lim ∧ y2 = y2)) <|
  let y3 := t126 n1 l2 n3
  chk (okR zr126 zo126 y3) <|
  let y4 := asI (resC y3 0 0)
  let y5 := decide (y4 < (0 : Int))
  if y5 then
   let y6 := List.replicate y1.toNat z4
   some ([.one (.l y6)], [])
  else
   let y7 := List.replicate y2.toNat z4
   chk (decide (0 ≤ y4) && decide (y4 < y7.length)) <|
   let y8 := y4.toNat
   chk (decide (1 ≤ 1 ∧ y8 < y7.length)) <|
   let y9 := List.replicate y1.toNat z4
   la92o1 t126 n1 l2 n3 y4 y5 n1 l2
    (fun (n512 : Int) (v513 : SV) (v514 : SV) (v515 : SV) (b516 : Bool) (v517 : SV) (v518 : SV) (v519 : SV) (v520 : SV) (l521 : List (List D)) (l522 : List (List D)) =>
     some ([.one (.l l521)], [])) KK (0 : Int) SV.undef SV.undef SV.undef SV.undef SV.undef SV.undef SV.undef SV.undef y9 (stR y7 y8 0 [.b true])
theorem te92 : ta92 tu126 = t92 := (by rw [tu126_eq] : ta92 tu126 = ta92 t126).trans (by kernel_rfl)
def tw92 (vs : List Vr) : Rs := ta92 tu126 (vI vs 0) (vL vs 1) (vI vs 2)
def tp92 (vs : List Vr) : Rs := tu92 (vI vs 0) (vL vs 1) (vI vs 2)
theorem tpw92 : tp92 = tw92 := funext fun vs => by unfold tp92 tw92; rw [tu92_eq, te92]
def th92 (xs : List DV) : Bool × List DV × List (List D) := gOf zr92 zo92 (argsT A92 tp92 xs)
theorem te93 : t93 = t93 := rfl
def tw93 (vs : List Vr) : Rs := t93 (vI vs 0) (vL vs 1) (vI vs 2)
def tp93 (vs : List Vr) : Rs := tu93 (vI vs 0) (vL vs 1) (vI vs 2)
theorem tpw93 : tp93 = tw93 := funext fun vs => by unfold tp93 tw93; rw [tu93_eq, te93]
def th93 (xs : List DV) : Bool × List DV × List (List D) := gOf zr93 zo93 (argsT A93 tp93 xs)
theorem te94 : t94 = t94 := rfl
def tw94 (vs : List Vr) : Rs := t94 (vI vs 0) (vL vs 1)
def tp94 (vs : List Vr) : Rs := tu94 (vI vs 0) (vL vs 1)
theorem tpw94 : tp94 = tw94 := funext fun vs => by unfold tp94 tw94; rw [tu94_eq, te94]
def th94 (xs : List DV) : Bool × List DV × List (List D) := gOf zr94 zo94 (argsT A94 tp94 xs)
def la127o0 (t92 : Int → List (List D) → Int → Rs) (n17 : Int) (l18 : List (List D)) (n19 : Int) (n20 : Int) (n21 : Int) (n27 : Int) (l28 : List (List D)) (l29 : List (List D)) (q1 : Int → Int → Int → Bool → SV → Rs) : Nat → Int → Int → Int → SV → SV → Rs
  | 0, _, _, _, _, _ => none
  | m + 1, n22, n23, n24, v25, v26 =>
    let y1 := decide (n24 < (l29.length : Int))
    if y1 then
     chk (decide (0 ≤ n24) && decide (n24 < l29.length)) <|
     let y2 := l29.getD (n24.toNat) []
     chk (decide (1 ≤ y2.length) && isF z4 0 y2) <|
     let k1 := fun (n30 : Int) (n31 : Int) =>
      let y3 := asB (nthD y2 0)
      la127o0 t92 n17 l18 n19 n20 n21 n27 l28 l29 q1 m n30 n31 (w64 (n24 + (1 : Int))) (.d (.b y1)) (.d (.b y3))
     let y4 := asB (nthD y2 0)
     if y4 then
      let y5 := l28.getD n24.toNat []
      chk (decide (0 ≤ n24) && decide (n24 < l28.length) && isRow z64 y5) <|
      k1 (w64 (n22 + ((asS (nthD y5 5)).size : Int))) (w64 (n23 + (1 : Int)))
     else
      k1 n22 n23
    else
     q1 n22 n23 n24 y1 (keepV [128, 768] v26)
def ta127 (t92 : Int → List (List D) → Int → Rs) (n1 : Int) (l2 : List (List D)) (n3 : Int) : Rs :=
  let y1 := t92 n1 l2 n3
  chk (okR zr92 zo92 y1) <|
  la127o0 t92 n1 l2 n3 (0 : Int) (0 : Int) n1 l2 (asL (resC y1 0 0))
   (fun (n50 : Int) (n51 : Int) (n52 : Int) (b53 : Bool) (v54 : SV) =>
    some ([.one (.i .i64 n50), .one (.i .i64 n51)], [])) KK (0 : Int) (0 : Int) (0 : Int) SV.undef SV.undef
theorem te127 : ta127 tu92 = t127 := (by rw [tu92_eq] : ta127 tu92 = ta127 t92).trans (by kernel_rfl)
def tw127 (vs : List Vr) : Rs := ta127 tu92 (vI vs 0) (vL vs 1) (vI vs 2)
def tp127 (vs : List Vr) : Rs := tu127 (vI vs 0) (vL vs 1) (vI vs 2)
theorem tpw127 : tp127 = tw127 := funext fun vs => by unfold tp127 tw127; rw [tu127_eq, te127]
def th127 (xs : List DV) : Bool × List DV × List (List D) := gOf zr127 zo127 (argsT A127 tp127 xs)
def la95o0 (t127 : Int → List (List D) → Int → Rs) (n9 : Int) (l10 : List (List D)) (b11 : Bool) (n18 : Int) (l19 : List (List D)) (q1 : Int → Int → Int → Bool → Bool → Bool → Int → Int → Int → Int → Int → ByteArray → List (List D) → Int → Int → Rs) (q2 : Int → SV → SV → Bool → SV → SV → Rs) : Nat → Int → SV → SV → SV → SV → SV → Rs
  | 0, _, _, _, _, _, _ => none
  | m + 1, n12, v13, v14, v15, v16, v17 =>
    let y1 := decide (n12 < (l19.length : Int))
    if y1 then
     let y2 := l19.getD n12.toNat []
     chk (decide (0 ≤ n12) && decide (n12 < l19.length) && isRow z64 y2) <|
     let y3 := asI (nthD y2 1)
     let y4 := asI (nthD y2 7)
     let y5 := asI (nthD y2 8)
     let y6 := (y3 != (2 : Int)) || ((y4 == (0 : Int)) && (y5 == (0 : Int)))
     if y6 then
      la95o0 t127 n9 l10 b11 n18 l19 q1 q2 m (w64 (n12 + (1 : Int))) (keepV [64] v13) (keepV [64] v14) (.d (.b y1)) (.d (.b y6)) (keepV [64] v17)
     else
      let y7 := asI (nthD y2 0)
      let y8 := t127 n18 l19 y7
      chk (okR zr127 zo127 y8) <|
      let y9 := asI (resC y8 0 0)
      let y10 := asI (resC y8 1 0)
      let y11 := ((decide (y4 > (0 : Int))) && (decide (y9 > y4))) || ((decide (y5 > (0 : Int))) && (decide (y10 > y5)))
      if y11 then
       q1 n12 y9 y10 y1 y6 y11 y7 y3 (asI (nthD y2 2)) (asI (nthD y2 3)) (asI (nthD y2 4)) (asS (nthD y2 5)) (asL (nthD y2 6)) y4 y5
      else
       la95o0 t127 n9 l10 b11 n18 l19 q1 q2 m (w64 (n12 + (1 : Int))) (.d (.i .i64 y9)) (.d (.i .i64 y10)) (.d (.b y1)) (.d (.b y6)) (.d (.b y11))
    else
     q2 n12 (keepV [64] v13) (keepV [64] v14) y1 (keepV [64] v16) (keepV [64] v17)
def ta95 (t127 : Int → List (List D) → Int → Rs) (n1 : Int) (l2 : List (List D)) : Rs :=
  la95o0 t127 n1 l2 false n1 l2
   (fun (n63 : Int) (n64 : Int) (n65 : Int) (b66 : Bool) (b67 : Bool) (b68 : Bool) (n69 : Int) (n70 : Int) (n71 : Int) (n72 : Int) (n73 : Int) (s74 : ByteArray) (l75 : List (List D)) (n76 : Int) (n77 : Int) =>
    some ([.one (.b true)], []))
   (fun (n78 : Int) (v79 : SV) (v80 : SV) (b81 : Bool) (v82 : SV) (v83 : SV) =>
    some ([.one (.b false)], [])) KK (0 : Int) SV.undef SV.undef SV.undef SV.undef SV.undef
theorem te95 : ta95 tu127 = t95 := (by rw [tu127_eq] : ta95 tu127 = ta95 t127).trans (by kernel_rfl)
def tw95 (vs : List Vr) : Rs := ta95 tu127 (vI vs 0) (vL vs 1)
def tp95 (vs : List Vr) : Rs := tu95 (vI vs 0) (vL vs 1)
theorem tpw95 : tp95 = tw95 := funext fun vs => by unfold tp95 tw95; rw [tu95_eq, te95]
def th95 (xs : List DV) : Bool × List DV × List (List D) := gOf zr95 zo95 (argsT A95 tp95 xs)
def la56o4 (t57 : Int → Int → Int → Rs) (t91 : Int → List (List D) → Int → Int → Int → Int → Int → ByteArray → List (List D) → Int → Int → Rs) (t92 : Int → List (List D) → Int → Rs) (t93 : Int → List (List D) → Int → Rs) (t94 : Int → List (List D) → Rs) (t95 : Int → List (List D) → Rs) (n69 : Int) (l70 : List (List D)) (b71 : Bool) (n72 : Int) (b74 : Bool) (b75 : Bool) (n79 : Int) (l80 : List (List D)) (l81 : List (List D)) (q1 : Int → SV → Bool → Bool → Rs) (q2 : Int → SV → Bool → SV → Rs) : Nat → Int → SV → SV → SV → Rs
  | 0, _, _, _, _ => none
  | m + 1, n73, v76, v77, v78 =>
    let y1 := decide (n73 < (l80.length : Int))
    if y1 then
     chk (decide (0 ≤ n73) && decide (n73 < l81.length)) <|
     let y2 := l81.getD (n73.toNat) []
     chk (decide (1 ≤ y2.length) && isF z4 0 y2) <|
     let y3 := l80.getD n73.toNat []
     let y4 := !(asB (nthD y2 0))
     chk ((decide (0 ≤ n73) && decide (n73 < l80.length) && isRow z64 y3) || !(!y4)) <|
     let y5 := l80.getD n73.toNat []
     let y6 := !y4
     let y7 := (asI (nthD y3 1)) == (2 : Int)
     chk ((decide (0 ≤ n73) && decide (n73 < l80.length) && isRow z64 y5) || !(y6 && y7)) <|
     let y8 := t93 n79 l80 (asI (nthD y5 0))
     chk ((okR zr93 zo93 y8) || !(y6 && y7)) <|
     let y9 := y4 || (y7 && ((asI (resC y8 0 0)) != (1 : Int)))
     if y9 then
      q1 n73 v76 y1 y9
     else
      la56o4 t57 t91 t92 t93 t94 t95 n69 l70 b71 n72 b74 b75 n79 l80 l81 q1 q2 m (w64 (n73 + (1 : Int))) (keepV [64, 4864] v76) (.d (.b y1)) (.d (.b y9))
    else
     q2 n73 (keepV [64, 4864] v76) y1 (keepV [64, 4864] v78)
def la56o1 (t57 : Int → Int → Int → Rs) (t91 : Int → List (List D) → Int → Int → Int → Int → Int → ByteArray → List (List D) → Int → Int → Rs) (t92 : Int → List (List D) → Int → Rs) (t93 : Int → List (List D) → Int → Rs) (t94 : Int → List (List D) → Rs) (t95 : Int → List (List D) → Rs) (n10 : Int) (l11 : List (List D)) (b12 : Bool) (b14 : Bool) (n17 : Int) (l18 : List (List D)) (q1 : Int → Bool → Bool → Int → Int → Int → Int → Int → ByteArray → List (List D) → Int → Int → Rs) (q2 : Int → Bool → SV → Rs) : Nat → Int → SV → SV → Rs
  | 0, _, _, _ => none
  | m + 1, n13, v15, v16 =>
    let y1 := decide (n13 < (l18.length : Int))
    if y1 then
     let y2 := l18.getD n13.toNat []
     chk (decide (0 ≤ n13) && decide (n13 < l18.length) && isRow z64 y2) <|
     let y3 := asI (nthD y2 0)
     let y4 := t57 y3 (1 : Int) (w64 (n17 - (1 : Int)))
     chk (okR zr57 zo57 y4) <|
     let y5 := w64 (n13 - (1 : Int))
     let y6 := l18.getD y5.toNat []
     let y7 := !(asB (resC y4 0 0))
     let y8 := decide (n13 > (0 : Int))
     chk ((decide (0 ≤ y5) && decide (y5 < l18.length) && isRow z64 y6) || !((!y7) && y8)) <|
     let y9 := asI (nthD y2 1)
     let y10 := asI (nthD y2 2)
     let y11 := asI (nthD y2 3)
     let y12 := asI (nthD y2 4)
     let y13 := asS (nthD y2 5)
     let y14 := asL (nthD y2 6)
     let y15 := asI (nthD y2 7)
     let y16 := asI (nthD y2 8)
     let y17 := t91 n17 l18 y3 y9 y10 y11 y12 y13 y14 y15 y16
     let y18 := y7 || (y8 && (decide ((asI (nthD y6 0)) ≥ y3)))
     chk ((okR zr91 zo91 y17) || !(!y18)) <|
     let y19 := y18 || (!(asB (resC y17 0 0)))
     if y19 then
      q1 n13 y1 y19 y3 y9 y10 y11 y12 y13 y14 y15 y16
     else
      la56o1 t57 t91 t92 t93 t94 t95 n10 l11 b12 b14 n17 l18 q1 q2 m (w64 (n13 + (1 : Int))) (.d (.b y1)) (.d (.b y19))
    else
     q2 n13 y1 (keepV [64] v16)
def ta56 (t57 : Int → Int → Int → Rs) (t91 : Int → List (List D) → Int → Int → Int → Int → Int → ByteArray → List (List D) → Int → Int → Rs) (t92 : Int → List (List D) → Int → Rs) (t93 : Int → List (List D) → Int → Rs) (t94 : Int → List (List D) → Rs) (t95 : Int → List (List D) → Rs) (n1 : Int) (l2 : List (List D)) : Rs :=
  let y1 := t57 n1 (2 : Int) (100000 : Int)
  chk (okR zr57 zo57 y1) <|
  let y2 := t57 (l2.length : Int) (1 : Int) (24 : Int)
  let y3 := !(asB (resC y1 0 0))
  chk ((okR zr57 zo57 y2) || !(!y3)) <|
  let y4 := l2.getD (0 : Int).toNat []
  let y5 := y3 || (!(asB (resC y2 0 0)))
  chk ((decide (0 ≤ (0 : Int)) && decide ((0 : Int) < l2.length) && isRow z64 y4) || !(!y5)) <|
  let y6 := l2.getD (0 : Int).toNat []
  let y7 := y5 || ((asI (nthD y4 0)) != (1 : Int))
  chk ((decide (0 ≤ (0 : Int)) && decide ((0 : Int) < l2.length) && isRow z64 y6) || !(!y7)) <|
  let y8 := y7 || ((asI (nthD y6 1)) != (2 : Int))
  if y8 then
   some ([.one (.b false)], [])
  else
   la56o1 t57 t91 t92 t93 t94 t95 n1 l2 false y8 n1 l2
    (fun (n43 : Int) (b44 : Bool) (b45 : Bool) (n46 : Int) (n47 : Int) (n48 : Int) (n49 : Int) (n50 : Int) (s51 : ByteArray) (l52 : List (List D)) (n53 : Int) (n54 : Int) =>
     some ([.one (.b false)], []))
    (fun (n55 : Int) (b56 : Bool) (v57 : SV) =>
     let y9 := t92 n1 l2 (1 : Int)
     chk (okR zr92 zo92 y9) <|
     la56o4 t57 t91 t92 t93 t94 t95 n1 l2 false n55 y8 b56 n1 l2 (asL (resC y9 0 0))
      (fun (n103 : Int) (v104 : SV) (b105 : Bool) (b106 : Bool) =>
       some ([.one (.b false)], []))
      (fun (n107 : Int) (v108 : SV) (b109 : Bool) (v110 : SV) =>
       chk (okR zr94 zo94 (t94 n1 l2)) <|
       let y10 := decide ((asI (resC (t94 n1 l2) 0 0)) ≤ (400 : Int))
       chk ((okR zr95 zo95 (t95 n1 l2)) || !y10) <|
       some ([.one (.b (y10 && (!(asB (resC (t95 n1 l2) 0 0)))))], [])) KK (1 : Int) v57 SV.undef SV.undef) KK (0 : Int) SV.undef SV.undef
theorem te56 : ta56 tu57 tu91 tu92 tu93 tu94 tu95 = t56 := (by rw [tu57_eq, tu91_eq, tu92_eq, tu93_eq, tu94_eq, tu95_eq] : ta56 tu57 tu91 tu92 tu93 tu94 tu95 = ta56 t57 t91 t92 t93 t94 t95).trans (by kernel_rfl)
def tw56 (vs : List Vr) : Rs := ta56 tu57 tu91 tu92 tu93 tu94 tu95 (vI vs 0) (vL vs 1)
def tp56 (vs : List Vr) : Rs := tu56 (vI vs 0) (vL vs 1)
theorem tpw56 : tp56 = tw56 := funext fun vs => by unfold tp56 tw56; rw [tu56_eq, te56]
def th56 (xs : List DV) : Bool × List DV × List (List D) := gOf zr56 zo56 (argsT A56 tp56 xs)
def la58o1 (t57 : Int → Int → Int → Rs) (l6 : List (List D)) (b7 : Bool) (b9 : Bool) (q1 : Int → Bool → Bool → Int → Int → Int → Int → Int → Rs) (q2 : Int → Bool → SV → Rs) : Nat → Int → SV → SV → Rs
  | 0, _, _, _ => none
  | m + 1, n8, v10, v11 =>
    let y1 := decide (n8 < (l6.length : Int))
    if y1 then
     let y2 := l6.getD n8.toNat []
     chk (decide (0 ≤ n8) && decide (n8 < l6.length) && isRow z90 y2) <|
     let y3 := asI (nthD y2 0)
     let y4 := t57 y3 (1 : Int) (100000 : Int)
     chk (okR zr57 zo57 y4) <|
     let y5 := w64 (n8 - (1 : Int))
     let y6 := l6.getD y5.toNat []
     let y7 := !(asB (resC y4 0 0))
     let y8 := decide (n8 > (0 : Int))
     chk ((decide (0 ≤ y5) && decide (y5 < l6.length) && isRow z90 y6) || !((!y7) && y8)) <|
     let y9 := asI (nthD y2 1)
     let y10 := t57 y9 (1 : Int) (3 : Int)
     let y11 := y7 || (y8 && (decide ((asI (nthD y6 0)) > y3)))
     chk ((okR zr57 zo57 y10) || !(!y11)) <|
     let y12 := asI (nthD y2 2)
     let y13 := t57 y12 (1 : Int) (1000000 : Int)
     let y14 := y11 || (!(asB (resC y10 0 0)))
     chk ((okR zr57 zo57 y13) || !(!y14)) <|
     let y15 := asI (nthD y2 3)
     let y16 := t57 y15 (1 : Int) (22 : Int)
     let y17 := y14 || (!(asB (resC y13 0 0)))
     chk ((okR zr57 zo57 y16) || !(!y17)) <|
     let y18 := asI (nthD y2 4)
     let y19 := t57 y18 (0 : Int) (200 : Int)
     let y20 := y17 || (!(asB (resC y16 0 0)))
     chk ((okR zr57 zo57 y19) || !(!y20)) <|
     let y21 := y20 || (!(asB (resC y19 0 0)))
     if y21 then
      q1 n8 y1 y21 y3 y9 y12 y15 y18
     else
      la58o1 t57 l6 b7 b9 q1 q2 m (w64 (n8 + (1 : Int))) (.d (.b y1)) (.d (.b y21))
    else
     q2 n8 y1 (keepV [] v11)
def ta58 (t57 : Int → Int → Int → Rs) (l1 : List (List D)) : Rs :=
  let y1 := decide ((l1.length : Int) > (20 : Int))
  if y1 then
   some ([.one (.b false)], [])
  else
   la58o1 t57 l1 false y1
    (fun (n29 : Int) (b30 : Bool) (b31 : Bool) (n32 : Int) (n33 : Int) (n34 : Int) (n35 : Int) (n36 : Int) =>
     some ([.one (.b false)], []))
    (fun (n37 : Int) (b38 : Bool) (v39 : SV) =>
     some ([.one (.b true)], [])) KK (0 : Int) SV.undef SV.undef
theorem te58 : ta58 tu57 = t58 := (by rw [tu57_eq] : ta58 tu57 = ta58 t57).trans (by kernel_rfl)
def tw58 (vs : List Vr) : Rs := ta58 tu57 (vL vs 0)
def tp58 (vs : List Vr) : Rs := tu58 (vL vs 0)
theorem tpw58 : tp58 = tw58 := funext fun vs => by unfold tp58 tw58; rw [tu58_eq, te58]
def th58 (xs : List DV) : Bool × List DV × List (List D) := gOf zr58 zo58 (argsT A58 tp58 xs)
def ta59 (t57 : Int → Int → Int → Rs) (n1 : Int) (s2 : ByteArray) : Rs :=
  let y1 := t57 n1 (0 : Int) (200 : Int)
  chk (okR zr57 zo57 y1) <|
  some ([.one (.b ((asB (resC y1 0 0)) && (decide ((s2.size : Int) ≤ (400 : Int)))))], [])
theorem te59 : ta59 tu57 = t59 := (by rw [tu57_eq] : ta59 tu57 = ta59 t57).trans (by kernel_rfl)
def tw59 (vs : List Vr) : Rs := ta59 tu57 (vI vs 0) (vS vs 1)
def tp59 (vs : List Vr) : Rs := tu59 (vI vs 0) (vS vs 1)
theorem tpw59 : tp59 = tw59 := funext fun vs => by unfold tp59 tw59; rw [tu59_eq, te59]
def th59 (xs : List DV) : Bool × List DV × List (List D) := gOf zr59 zo59 (argsT A59 tp59 xs)
def la23o1 (t56 : Int → List (List D) → Rs) (t57 : Int → Int → Int → Rs) (t58 : List (List D) → Rs) (t59 : Int → ByteArray → Rs) (n19 : Int) (l20 : List (List D)) (n21 : Int) (l22 : List (List D)) (l23 : List (List D)) (b24 : Bool) (b26 : Bool) (n29 : Int) (l30 : List (List D)) (n31 : Int) (l32 : List (List D)) (l33 : List (List D)) (q1 : Int → Bool → Bool → Int → Int → Int → Int → ByteArray → Rs) (q2 : Int → Bool → SV → Rs) : Nat → Int → SV → SV → Rs
  | 0, _, _, _ => none
  | m + 1, n25, v27, v28 =>
    let y1 := decide (n25 < (l33.length : Int))
    if y1 then
     let y2 := l33.getD n25.toNat []
     chk (decide (0 ≤ n25) && decide (n25 < l33.length) && isRow z81 y2) <|
     let y3 := asI (nthD y2 0)
     let y4 := t57 y3 (1 : Int) (3 : Int)
     chk (okR zr57 zo57 y4) <|
     let y5 := w64 (n25 - (1 : Int))
     let y6 := l33.getD y5.toNat []
     let y7 := !(asB (resC y4 0 0))
     let y8 := decide (n25 > (0 : Int))
     chk ((decide (0 ≤ y5) && decide (y5 < l33.length) && isRow z81 y6) || !((!y7) && y8)) <|
     let y9 := asI (nthD y2 1)
     let y10 := t57 y9 (1 : Int) (1000000 : Int)
     let y11 := y7 || (y8 && (decide ((asI (nthD y6 0)) ≥ y3)))
     chk ((okR zr57 zo57 y10) || !(!y11)) <|
     let y12 := asI (nthD y2 2)
     let y13 := t57 y12 (1 : Int) (100000 : Int)
     let y14 := y11 || (!(asB (resC y10 0 0)))
     chk ((okR zr57 zo57 y13) || !(!y14)) <|
     let y15 := asI (nthD y2 3)
     let y16 := asS (nthD y2 4)
     let y17 := t59 y15 y16
     let y18 := y14 || (!(asB (resC y13 0 0)))
     chk ((okR zr59 zo59 y17) || !(!y18)) <|
     let y19 := y18 || (!(asB (resC y17 0 0)))
     if y19 then
      q1 n25 y1 y19 y3 y9 y12 y15 y16
     else
      la23o1 t56 t57 t58 t59 n19 l20 n21 l22 l23 b24 b26 n29 l30 n31 l32 l33 q1 q2 m (w64 (n25 + (1 : Int))) (.d (.b y1)) (.d (.b y19))
    else
     q2 n25 y1 (keepV [64] v28)
def ta23 (t56 : Int → List (List D) → Rs) (t57 : Int → Int → Int → Rs) (t58 : List (List D) → Rs) (t59 : Int → ByteArray → Rs) (n1 : Int) (l2 : List (List D)) (n3 : Int) (l4 : List (List D)) (l5 : List (List D)) : Rs :=
  chk (okR zr56 zo56 (t56 n1 l2)) <|
  let y1 := t57 n3 (0 : Int) (30 : Int)
  let y2 := !(asB (resC (t56 n1 l2) 0 0))
  chk ((okR zr57 zo57 y1) || !(!y2)) <|
  let y3 := y2 || (!(asB (resC y1 0 0)))
  chk ((okR zr58 zo58 (t58 l4)) || !(!y3)) <|
  let y4 := (y3 || (!(asB (resC (t58 l4) 0 0)))) || (decide ((l5.length : Int) > (3 : Int)))
  if y4 then
   some ([.one (.b false)], [])
  else
   la23o1 t56 t57 t58 t59 n1 l2 n3 l4 l5 false y4 n1 l2 n3 l4 l5
    (fun (n60 : Int) (b61 : Bool) (b62 : Bool) (n63 : Int) (n64 : Int) (n65 : Int) (n66 : Int) (s67 : ByteArray) =>
     some ([.one (.b false)], []))
    (fun (n68 : Int) (b69 : Bool) (v70 : SV) =>
     some ([.one (.b true)], [])) KK (0 : Int) SV.undef SV.undef
theorem te23 : ta23 tu56 tu57 tu58 tu59 = t23 := (by rw [tu56_eq, tu57_eq, tu58_eq, tu59_eq] : ta23 tu56 tu57 tu58 tu59 = ta23 t56 t57 t58 t59).trans (by kernel_rfl)
def tw23 (vs : List Vr) : Rs := ta23 tu56 tu57 tu58 tu59 (vI vs 0) (vL vs 1) (vI vs 2) (vL vs 3) (vL vs 4)
def tp23 (vs : List Vr) : Rs := tu23 (vI vs 0) (vL vs 1) (vI vs 2) (vL vs 3) (vL vs 4)
theorem tpw23 : tp23 = tw23 := funext fun vs => by unfold tp23 tw23; rw [tu23_eq, te23]
def th23 (xs : List DV) : Bool × List DV × List (List D) := gOf zr23 zo23 (argsT A23 tp23 xs)
def la27o1 (t23 : Int → List (List D) → Int → List (List D) → List (List D) → Rs) (l6 : List (List D)) (b7 : Bool) (b9 : Bool) (q1 : Int → Bool → Bool → Rs) (q2 : Int → Bool → SV → Rs) : Nat → Int → SV → SV → Rs
  | 0, _, _, _ => none
  | m + 1, n8, v10, v11 =>
    let y1 := decide (n8 < (l6.length : Int))
    if y1 then
     let y2 := l6.getD n8.toNat []
     chk (decide (0 ≤ n8) && decide (n8 < l6.length) && isRow z28 y2) <|
     let y3 := t23 (asI (nthD y2 0)) (asL (nthD y2 1)) (asI (nthD y2 2)) (asL (nthD y2 3)) (asL (nthD y2 4))
     chk (okR zr23 zo23 y3) <|
     let y4 := !(asB (resC y3 0 0))
     if y4 then
      q1 n8 y1 y4
     else
      la27o1 t23 l6 b7 b9 q1 q2 m (w64 (n8 + (1 : Int))) (.d (.b y1)) (.d (.b y4))
    else
     q2 n8 y1 (keepV [] v11)
def ta27 (t23 : Int → List (List D) → Int → List (List D) → List (List D) → Rs) (l1 : List (List D)) : Rs :=
  let y1 := (l1.length : Int) != (3 : Int)
  if y1 then
   some ([.one (.b false)], [])
  else
   la27o1 t23 l1 false y1
    (fun (n24 : Int) (b25 : Bool) (b26 : Bool) =>
     some ([.one (.b false)], []))
    (fun (n27 : Int) (b28 : Bool) (v29 : SV) =>
     some ([.one (.b true)], [])) KK (0 : Int) SV.undef SV.undef
theorem te27 : ta27 tu23 = t27 := (by rw [tu23_eq] : ta27 tu23 = ta27 t23).trans (by kernel_rfl)
def tw27 (vs : List Vr) : Rs := ta27 tu23 (vL vs 0)
def tp27 (vs : List Vr) : Rs := tu27 (vL vs 0)
theorem tpw27 : tp27 = tw27 := funext fun vs => by unfold tp27 tw27; rw [tu27_eq, te27]
def th27 (xs : List DV) : Bool × List DV × List (List D) := gOf zr27 zo27 (argsT A27 tp27 xs)
theorem te63 : t63 = t63 := rfl
def tw63 (vs : List Vr) : Rs := t63 (vI vs 0) (vI vs 1) (vI vs 2)
def tp63 (vs : List Vr) : Rs := tu63 (vI vs 0) (vI vs 1) (vI vs 2)
theorem tpw63 : tp63 = tw63 := funext fun vs => by unfold tp63 tw63; rw [tu63_eq, te63]
def th63 (xs : List DV) : Bool × List DV × List (List D) := gOf zr63 zo63 (argsT A63 tp63 xs)
def ta64 (t63 : Int → Int → Int → Rs) (n1 : Int) (s2 : ByteArray) : Rs :=
  let y1 := t63 n1 (0 : Int) (200 : Int)
  chk (okR zr63 zo63 y1) <|
  some ([.one (.b ((asB (resC y1 0 0)) && (decide ((s2.size : Int) ≤ (400 : Int)))))], [])
theorem te64 : ta64 tu63 = t64 := (by rw [tu63_eq] : ta64 tu63 = ta64 t63).trans (by kernel_rfl)
def tw64 (vs : List Vr) : Rs := ta64 tu63 (vI vs 0) (vS vs 1)
def tp64 (vs : List Vr) : Rs := tu64 (vI vs 0) (vS vs 1)
theorem tpw64 : tp64 = tw64 := funext fun vs => by unfold tp64 tw64; rw [tu64_eq, te64]
def th64 (xs : List DV) : Bool × List DV × List (List D) := gOf zr64 zo64 (argsT A64 tp64 xs)
def la65o0 (t63 : Int → Int → Int → Rs) (l7 : List (List D)) (b8 : Bool) (l10 : List (List D)) (n11 : Int) (q1 : Int → Bool → Bool → Int → Int → Int → Int → Int → Rs) (q2 : SV → Int → Bool → SV → Rs) : Nat → SV → Int → SV → SV → Rs
  | 0, _, _, _, _ => none
  | m + 1, v9, n12, v13, v14 =>
    let y1 := decide (n12 < n11)
    if y1 then
     let y2 := l10.getD n12.toNat []
     chk (decide (0 ≤ n12) && decide (n12 < l10.length) && isRow z90 y2) <|
     let y3 := asI (nthD y2 0)
     let y4 := t63 y3 (1 : Int) (100000 : Int)
     chk (okR zr63 zo63 y4) <|
     let y5 := w64 (n12 - (1 : Int))
     let y6 := l7.getD y5.toNat []
     let y7 := !(asB (resC y4 0 0))
     let y8 := decide (n12 > (0 : Int))
     chk ((decide (0 ≤ y5) && decide (y5 < l7.length) && isRow z90 y6) || !((!y7) && y8)) <|
     let y9 := asI (nthD y2 1)
     let y10 := t63 y9 (1 : Int) (3 : Int)
     let y11 := y7 || (y8 && (decide ((asI (nthD y6 0)) > y3)))
     chk ((okR zr63 zo63 y10) || !(!y11)) <|
     let y12 := asI (nthD y2 2)
     let y13 := t63 y12 (1 : Int) (1000000 : Int)
     let y14 := y11 || (!(asB (resC y10 0 0)))
     chk ((okR zr63 zo63 y13) || !(!y14)) <|
     let y15 := asI (nthD y2 3)
     let y16 := t63 y15 (1 : Int) (22 : Int)
     let y17 := y14 || (!(asB (resC y13 0 0)))
     chk ((okR zr63 zo63 y16) || !(!y17)) <|
     let y18 := asI (nthD y2 4)
     let y19 := t63 y18 (0 : Int) (200 : Int)
     let y20 := y17 || (!(asB (resC y16 0 0)))
     chk ((okR zr63 zo63 y19) || !(!y20)) <|
     let y21 := y20 || (!(asB (resC y19 0 0)))
     if y21 then
      q1 n12 y1 y21 y3 y9 y12 y15 y18
     else
      la65o0 t63 l7 b8 l10 n11 q1 q2 m (.d (.i .i64 n12)) (w64 (n12 + (1 : Int))) (.d (.b y1)) (.d (.b y21))
    else
     q2 (keepV [] v9) n12 y1 (keepV [] v14)
def ta65 (t63 : Int → Int → Int → Rs) (l1 : List (List D)) : Rs :=
  la65o0 t63 l1 false l1 (l1.length : Int)
   (fun (n35 : Int) (b36 : Bool) (b37 : Bool) (n38 : Int) (n39 : Int) (n40 : Int) (n41 : Int) (n42 : Int) =>
    some ([.one (.b false)], []))
   (fun (v43 : SV) (n44 : Int) (b45 : Bool) (v46 : SV) =>
    some ([.one (.b (decide ((l1.length : Int) ≤ (20 : Int))))], [])) KK SV.undef (0 : Int) SV.undef SV.undef
theorem te65 : ta65 tu63 = t65 := (by rw [tu63_eq] : ta65 tu63 = ta65 t63).trans (by kernel_rfl)
def tw65 (vs : List Vr) : Rs := ta65 tu63 (vL vs 0)
def tp65 (vs : List Vr) : Rs := tu65 (vL vs 0)
theorem tpw65 : tp65 = tw65 := funext fun vs => by unfold tp65 tw65; rw [tu65_eq, te65]
def th65 (xs : List DV) : Bool × List DV × List (List D) := gOf zr65 zo65 (argsT A65 tp65 xs)
theorem te141 : t141 = t141 := rfl
def tw141 (vs : List Vr) : Rs := t141 (vI vs 0)
def tp141 (vs : List Vr) : Rs := tu141 (vI vs 0)
theorem tpw141 : tp141 = tw141 := funext fun vs => by unfold tp141 tw141; rw [tu141_eq, te141]
def th141 (xs : List DV) : Bool × List DV × List (List D) := gOf zr141 zo141 (argsT A141 tp141 xs)
def la130o0 (t63 : Int → Int → Int → Rs) (t141 : Int → Rs) (s6 : ByteArray) (b7 : Bool) (n9 : Int) (q1 : Int → Bool → Bool → Rs) (q2 : SV → Int → Bool → SV → Rs) : Nat → SV → Int → SV → SV → Rs
  | 0, _, _, _, _ => none
  | m + 1, v8, n10, v11, v12 =>
    let y1 := decide (n10 < n9)
    if y1 then
     chk (decide (0 ≤ n10 ∧ n10 < s6.size)) <|
     let y2 := ((s6.get! n10.toNat).toNat) != (47 : Int)
     chk ((decide (0 ≤ n10 ∧ n10 < s6.size)) || !y2) <|
     let y3 := t141 ((s6.get! n10.toNat).toNat)
     chk ((okR zr141 zo141 y3) || !y2) <|
     let y4 := y2 && (!(asB (resC y3 0 0)))
     if y4 then
      q1 n10 y1 y4
     else
      la130o0 t63 t141 s6 b7 n9 q1 q2 m (.d (.i .i64 n10)) (w64 (n10 + (1 : Int))) (.d (.b y1)) (.d (.b y4))
    else
     q2 (keepV [] v8) n10 y1 (keepV [] v12)
def ta130 (t63 : Int → Int → Int → Rs) (t141 : Int → Rs) (s1 : ByteArray) : Rs :=
  la130o0 t63 t141 s1 false (s1.size : Int)
   (fun (n27 : Int) (b28 : Bool) (b29 : Bool) =>
    some ([.one (.b false)], []))
   (fun (v30 : SV) (n31 : Int) (b32 : Bool) (v33 : SV) =>
    let y1 := t63 (s1.size : Int) (1 : Int) (60 : Int)
    chk (okR zr63 zo63 y1) <|
    some ([.one (.b (asB (resC y1 0 0)))], [])) KK SV.undef (0 : Int) SV.undef SV.undef
theorem te130 : ta130 tu63 tu141 = t130 := (by rw [tu63_eq, tu141_eq] : ta130 tu63 tu141 = ta130 t63 t141).trans (by kernel_rfl)
def tw130 (vs : List Vr) : Rs := ta130 tu63 tu141 (vS vs 0)
def tp130 (vs : List Vr) : Rs := tu130 (vS vs 0)
theorem tpw130 : tp130 = tw130 := funext fun vs => by unfold tp130 tw130; rw [tu130_eq, te130]
def th130 (xs : List DV) : Bool × List DV × List (List D) := gOf zr130 zo130 (argsT A130 tp130 xs)
def la142o0 (t63 : Int → Int → Int → Rs) (t141 : Int → Rs) (s6 : ByteArray) (b7 : Bool) (n9 : Int) (q1 : Int → Bool → Bool → Rs) (q2 : SV → Int → Bool → SV → Rs) : Nat → SV → Int → SV → SV → Rs
  | 0, _, _, _, _ => none
  | m + 1, v8, n10, v11, v12 =>
    let y1 := decide (n10 < n9)
    if y1 then
     chk (decide (0 ≤ n10 ∧ n10 < s6.size)) <|
     let y2 := t141 ((s6.get! n10.toNat).toNat)
     chk (okR zr141 zo141 y2) <|
     let y3 := !(asB (resC y2 0 0))
     if y3 then
      q1 n10 y1 y3
     else
      la142o0 t63 t141 s6 b7 n9 q1 q2 m (.d (.i .i64 n10)) (w64 (n10 + (1 : Int))) (.d (.b y1)) (.d (.b y3))
    else
     q2 (keepV [] v8) n10 y1 (keepV [] v12)
def ta142 (t63 : Int → Int → Int → Rs) (t141 : Int → Rs) (s1 : ByteArray) : Rs :=
  la142o0 t63 t141 s1 false (s1.size : Int)
   (fun (n27 : Int) (b28 : Bool) (b29 : Bool) =>
    some ([.one (.b false)], []))
   (fun (v30 : SV) (n31 : Int) (b32 : Bool) (v33 : SV) =>
    let y1 := t63 (s1.size : Int) (1 : Int) (8 : Int)
    chk (okR zr63 zo63 y1) <|
    some ([.one (.b (((asB (resC y1 0 0)) && (!(s1.toList == (⟨#[46]⟩ : ByteArray).toList))) && (!(s1.toList == (⟨#[46, 46]⟩ : ByteArray).toList))))], [])) KK SV.undef (0 : Int) SV.undef SV.undef
theorem te142 : ta142 tu63 tu141 = t142 := (by rw [tu63_eq, tu141_eq] : ta142 tu63 tu141 = ta142 t63 t141).trans (by kernel_rfl)
def tw142 (vs : List Vr) : Rs := ta142 tu63 tu141 (vS vs 0)
def tp142 (vs : List Vr) : Rs := tu142 (vS vs 0)
theorem tpw142 : tp142 = tw142 := funext fun vs => by unfold tp142 tw142; rw [tu142_eq, te142]
def th142 (xs : List DV) : Bool × List DV × List (List D) := gOf zr142 zo142 (argsT A142 tp142 xs)
theorem te132 : t132 = t132 := rfl
def tw132 (vs : List Vr) : Rs := t132 (vI vs 0) (vL vs 1) (vI vs 2)
def tp132 (vs : List Vr) : Rs := tu132 (vI vs 0) (vL vs 1) (vI vs 2)
theorem tpw132 : tp132 = tw132 := funext fun vs => by unfold tp132 tw132; rw [tu132_eq, te132]
def th132 (xs : List DV) : Bool × List DV × List (List D) := gOf zr132 zo132 (argsT A132 tp132 xs)
def la131o0 (t132 : Int → List (List D) → Int → Rs) (t142 : ByteArray → Rs) (n36 : Int) (l37 : List (List D)) (n38 : Int) (n39 : Int) (n40 : Int) (n41 : Int) (n42 : Int) (s43 : ByteArray) (l44 : List (List D)) (n45 : Int) (n46 : Int) (b47 : Bool) (l49 : List (List D)) (n50 : Int) (n54 : Int) (n55 : Int) (n56 : Int) (n57 : Int) (n58 : Int) (s59 : ByteArray) (l60 : List (List D)) (n61 : Int) (n62 : Int) (q1 : Int → Bool → Bool → ByteArray → Int → Rs) (q2 : SV → Int → Bool → SV → Rs) : Nat → SV → Int → SV → SV → Rs
  | 0, _, _, _, _ => none
  | m + 1, v48, n51, v52, v53 =>
    let y1 := decide (n51 < n50)
    if y1 then
     let y2 := l49.getD n51.toNat []
     chk (decide (0 ≤ n51) && decide (n51 < l49.length) && isRow z129 y2) <|
     let y3 := asS (nthD y2 0)
     let y4 := t142 y3
     chk (okR zr142 zo142 y4) <|
     let y5 := asI (nthD y2 1)
     let y6 := t132 n36 l37 y5
     let y7 := (!(asB (resC y4 0 0))) || (y5 == (1 : Int))
     chk ((okR zr132 zo132 y6) || !(!y7)) <|
     let y8 := w64 (n51 - (1 : Int))
     let y9 := l60.getD y8.toNat []
     let y10 := y7 || (!(asB (resC y6 0 0)))
     let y11 := decide (n51 > (0 : Int))
     chk ((decide (0 ≤ y8) && decide (y8 < l60.length) && isRow z129 y9) || !((!y10) && y11)) <|
     let y12 := y10 || (y11 && (!(Op.bytesLess (asS (nthD y9 0)).toList y3.toList)))
     if y12 then
      q1 n51 y1 y12 y3 y5
     else
      la131o0 t132 t142 n36 l37 n38 n39 n40 n41 n42 s43 l44 n45 n46 b47 l49 n50 n54 n55 n56 n57 n58 s59 l60 n61 n62 q1 q2 m (.d (.i .i64 n51)) (w64 (n51 + (1 : Int))) (.d (.b y1)) (.d (.b y12))
    else
     q2 (keepV [192] v48) n51 y1 (keepV [192] v53)
def ta131 (t132 : Int → List (List D) → Int → Rs) (t142 : ByteArray → Rs) (n1 : Int) (l2 : List (List D)) (n3 : Int) (n4 : Int) (n5 : Int) (n6 : Int) (n7 : Int) (s8 : ByteArray) (l9 : List (List D)) (n10 : Int) (n11 : Int) : Rs :=
  la131o0 t132 t142 n1 l2 n3 n4 n5 n6 n7 s8 l9 n10 n11 false l9 (l9.length : Int) n3 n4 n5 n6 n7 s8 l9 n10 n11
   (fun (n99 : Int) (b100 : Bool) (b101 : Bool) (s102 : ByteArray) (n103 : Int) =>
    some ([.one (.b false)], []))
   (fun (v104 : SV) (n105 : Int) (b106 : Bool) (v107 : SV) =>
    some ([.one (.b (decide ((l9.length : Int) ≤ (12 : Int))))], [])) KK SV.undef (0 : Int) SV.undef SV.undef
theorem te131 : ta131 tu132 tu142 = t131 := (by rw [tu132_eq, tu142_eq] : ta131 tu132 tu142 = ta131 t132 t142).trans (by kernel_rfl)
def tw131 (vs : List Vr) : Rs := ta131 tu132 tu142 (vI vs 0) (vL vs 1) (vI vs 2) (vI vs 3) (vI vs 4) (vI vs 5) (vI vs 6) (vS vs 7) (vL vs 8) (vI vs 9) (vI vs 10)
def tp131 (vs : List Vr) : Rs := tu131 (vI vs 0) (vL vs 1) (vI vs 2) (vI vs 3) (vI vs 4) (vI vs 5) (vI vs 6) (vS vs 7) (vL vs 8) (vI vs 9) (vI vs 10)
theorem tpw131 : tp131 = tw131 := funext fun vs => by unfold tp131 tw131; rw [tu131_eq, te131]
def th131 (xs : List DV) : Bool × List DV × List (List D) := gOf zr131 zo131 (argsT A131 tp131 xs)
def ta99 (t63 : Int → Int → Int → Rs) (t130 : ByteArray → Rs) (t131 : Int → List (List D) → Int → Int → Int → Int → Int → ByteArray → List (List D) → Int → Int → Rs) (n1 : Int) (l2 : List (List D)) (n3 : Int) (n4 : Int) (n5 : Int) (n6 : Int) (n7 : Int) (s8 : ByteArray) (l9 : List (List D)) (n10 : Int) (n11 : Int) : Rs :=
  let y1 := t63 n5 (0 : Int) (2047 : Int)
  chk (okR zr63 zo63 y1) <|
  let y2 := t63 n6 (0 : Int) (1000 : Int)
  let y3 := !(asB (resC y1 0 0))
  chk ((okR zr63 zo63 y2) || !(!y3)) <|
  let y4 := t63 n7 (0 : Int) (1000 : Int)
  let y5 := y3 || (!(asB (resC y2 0 0)))
  chk ((okR zr63 zo63 y4) || !(!y5)) <|
  if y5 || (!(asB (resC y4 0 0))) then
   some ([.one (.b false)], [])
  else
   if (n4 != (2 : Int)) && (((decide ((l9.length : Int) > (0 : Int))) || (n10 != (0 : Int))) || (n11 != (0 : Int))) then
    some ([.one (.b false)], [])
   else
    if n4 == (1 : Int) then
     some ([.one (.b (decide ((s8.size : Int) ≤ (64 : Int))))], [])
    else
     if n4 == (3 : Int) then
      chk (okR zr130 zo130 (t130 s8)) <|
      some ([.one (.b ((asB (resC (t130 s8) 0 0)) && (n5 == (511 : Int))))], [])
     else
      if n4 == (2 : Int) then
       let y6 := t131 n1 l2 n3 n4 n5 n6 n7 s8 l9 n10 n11
       let y7 := s8.toList == (⟨#[]⟩ : ByteArray).toList
       chk ((okR zr131 zo131 y6) || !y7) <|
       let y8 := t63 n10 (0 : Int) (400 : Int)
       let y9 := y7 && (asB (resC y6 0 0))
       chk ((okR zr63 zo63 y8) || !y9) <|
       let y10 := t63 n11 (0 : Int) (24 : Int)
       let y11 := y9 && (asB (resC y8 0 0))
       chk ((okR zr63 zo63 y10) || !y11) <|
       some ([.one (.b (y11 && (asB (resC y10 0 0))))], [])
      else
       some ([.one (.b false)], [])
theorem te99 : ta99 tu63 tu130 tu131 = t99 := (by rw [tu63_eq, tu130_eq, tu131_eq] : ta99 tu63 tu130 tu131 = ta99 t63 t130 t131).trans (by kernel_rfl)
def tw99 (vs : List Vr) : Rs := ta99 tu63 tu130 tu131 (vI vs 0) (vL vs 1) (vI vs 2) (vI vs 3) (vI vs 4) (vI vs 5) (vI vs 6) (vS vs 7) (vL vs 8) (vI vs 9) (vI vs 10)
def tp99 (vs : List Vr) : Rs := tu99 (vI vs 0) (vL vs 1) (vI vs 2) (vI vs 3) (vI vs 4) (vI vs 5) (vI vs 6) (vS vs 7) (vL vs 8) (vI vs 9) (vI vs 10)
theorem tpw99 : tp99 = tw99 := funext fun vs => by unfold tp99 tw99; rw [tu99_eq, te99]
def th99 (xs : List DV) : Bool × List DV × List (List D) := gOf zr99 zo99 (argsT A99 tp99 xs)
theorem te133 : t133 = t133 := rfl
def tw133 (vs : List Vr) : Rs := t133 (vL vs 0) (vI vs 1)
def tp133 (vs : List Vr) : Rs := tu133 (vL vs 0) (vI vs 1)
theorem tpw133 : tp133 = tw133 := funext fun vs => by unfold tp133 tw133; rw [tu133_eq, te133]
def th133 (xs : List DV) : Bool × List DV × List (List D) := gOf zr133 zo133 (argsT A133 tp133 xs)
def ta101 (t133 : List (List D) → Int → Rs) (l1 : List (List D)) (n2 : Int) : Rs :=
  chk (okR zr133 zo133 (t133 l1 n2)) <|
  some ([.one (.b (decide ((asI (resC (t133 l1 n2) 0 0)) ≥ (0 : Int))))], [])
theorem te101 : ta101 tu133 = t101 := (by rw [tu133_eq] : ta101 tu133 = ta101 t133).trans (by kernel_rfl)
def tw101 (vs : List Vr) : Rs := ta101 tu133 (vL vs 0) (vI vs 1)
def tp101 (vs : List Vr) : Rs := tu101 (vL vs 0) (vI vs 1)
theorem tpw101 : tp101 = tw101 := funext fun vs => by unfold tp101 tw101; rw [tu101_eq, te101]
def th101 (xs : List DV) : Bool × List DV × List (List D) := gOf zr101 zo101 (argsT A101 tp101 xs)
def la100o3 (t101 : List (List D) → Int → Rs) (t132 : Int → List (List D) → Int → Rs) (n99 : Int) (l100 : List (List D)) (n101 : Int) (n102 : Int) (b104 : Bool) (b105 : Bool) (l106 : List (List D)) (n107 : Int) (q1 : SV → Int → Bool → SV → List (List D) → List (List D) → Rs) : Nat → SV → Int → SV → SV → List (List D) → List (List D) → Rs
  | 0, _, _, _, _, _, _ => none
  | m + 1, v103, n108, v109, v110, l111, l112 =>
    let y1 := decide (n108 < n107)
    if y1 then
     let y2 := l106.getD n108.toNat []
     chk (decide (0 ≤ n108) && decide (n108 < l106.length) && isRow z129 y2) <|
     let y3 := asI (nthD y2 1)
     let y4 := t101 l111 y3
     chk (okR zr101 zo101 y4) <|
     let k1 := fun (v113 : SV) (l114 : List (List D)) (l115 : List (List D)) =>
      let y5 := !(asB (resC y4 0 0))
      la100o3 t101 t132 n99 l100 n101 n102 b104 b105 l106 n107 q1 m (keepV [704, 832] v113) (w64 (n108 + (1 : Int))) (.d (.b y1)) (.d (.b y5)) l114 l115
     let y6 := !(asB (resC y4 0 0))
     if y6 then
      let y7 := ([[.i .i64 y3]] : List (List D))
      chk ((flatR 1 y7) && decide (l111.length + y7.length ≤ lim)) <|
      let y8 := ([[.i .i64 y3]] : List (List D))
      chk ((flatR 1 y8) && decide (l112.length + y8.length ≤ lim)) <|
      k1 (killV 3200 (killV 2880 (killV 832 (killV 704 v103)))) (l111 ++ y7) (l112 ++ y8)
     else
      k1 v103 l111 l112
    else
     q1 (keepV [704, 832] v103) n108 y1 (keepV [704, 832] v110) l111 l112
def la100o0 (t101 : List (List D) → Int → Rs) (t132 : Int → List (List D) → Int → Rs) (n68 : Int) (l69 : List (List D)) (n70 : Int) (q1 : Int → SV → Bool → SV → SV → SV → SV → SV → SV → List (List D) → List (List D) → Rs) : Nat → Int → SV → SV → SV → SV → SV → SV → SV → SV → List (List D) → List (List D) → Rs
  | 0, _, _, _, _, _, _, _, _, _, _, _ => none
  | m + 1, n71, v72, v73, v74, v75, v76, v77, v78, v79, l80, l81 =>
    let y1 := decide (n71 < (l81.length : Int))
    if y1 then
     chk (decide (0 ≤ n71) && decide (n71 < l81.length)) <|
     let y2 := l81.getD (n71.toNat) []
     chk (decide (1 ≤ y2.length) && isF z3 0 y2) <|
     let y3 := t132 n68 l69 (asI (nthD y2 0))
     chk (okR zr132 zo132 y3) <|
     let y4 := asB (resC y3 0 0)
     let y5 := !y4
     if y5 then
      let y6 := asI (resC y3 1 0)
      let y7 := asI (resC y3 1 1)
      let y8 := asI (resC y3 1 2)
      let y9 := asI (resC y3 1 3)
      let y10 := asI (resC y3 1 4)
      let y11 := asS (resC y3 1 5)
      let y12 := asL (resC y3 1 6)
      let y13 := asI (resC y3 1 7)
      let y14 := asI (resC y3 1 8)
      la100o0 t101 t132 n68 l69 n70 q1 m (w64 (n71 + (1 : Int))) (SV.op y4 [.i .i64 y6, .i .i64 y7, .i .i64 y8, .i .i64 y9, .i .i64 y10, .s y11, .l y12, .i .i64 y13, .i .i64 y14]) (.d (.b y1)) (.d (.b y5)) (keepV [704, 832] v75) (keepV [704, 832] v76) (keepV [704, 832] v77) (keepV [704, 832] v78) (keepV [704, 832] v79) l80 l81
     else
      chk (y4) <|
      let y15 := asL (resC y3 1 6)
      let y16 := (y15.length : Int)
      let y17 := asI (resC y3 1 0)
      let y18 := asI (resC y3 1 1)
      let y19 := asI (resC y3 1 2)
      let y20 := asI (resC y3 1 3)
      let y21 := asI (resC y3 1 4)
      let y22 := asS (resC y3 1 5)
      let y23 := asI (resC y3 1 7)
      let y24 := asI (resC y3 1 8)
      la100o3 t101 t132 n68 l69 n70 n71 y1 y5 y15 y16
       (fun (v136 : SV) (n137 : Int) (b138 : Bool) (v139 : SV) (l140 : List (List D)) (l141 : List (List D)) =>
        la100o0 t101 t132 n68 l69 n70 q1 m (w64 (n71 + (1 : Int))) (keepV [704, 832] v136) (.d (.b y1)) (.d (.b y5)) (.d (.l y15)) (.d (.i .i64 y16)) (.d (.i .i64 n137)) (.d (.b b138)) (keepV [704, 832] v139) l140 l141) KK (SV.op y4 [.i .i64 y17, .i .i64 y18, .i .i64 y19, .i .i64 y20, .i .i64 y21, .s y22, .l y15, .i .i64 y23, .i .i64 y24]) (0 : Int) v78 v79 l80 l81
    else
     q1 n71 (keepV [704, 832] v72) y1 (keepV [704, 832] v74) (keepV [704, 832] v75) (keepV [704, 832] v76) (keepV [704, 832] v77) (keepV [704, 832] v78) (keepV [704, 832] v79) l80 l81
def ta100 (t101 : List (List D) → Int → Rs) (t132 : Int → List (List D) → Int → Rs) (n1 : Int) (l2 : List (List D)) (n3 : Int) : Rs :=
  la100o0 t101 t132 n1 l2 n3
   (fun (n181 : Int) (v182 : SV) (b183 : Bool) (v184 : SV) (v185 : SV) (v186 : SV) (v187 : SV) (v188 : SV) (v189 : SV) (l190 : List (List D)) (l191 : List (List D)) =>
    some ([.one (.l l190)], [])) KK (0 : Int) SV.undef SV.undef SV.undef SV.undef SV.undef SV.undef SV.undef SV.undef ([] : List (List D)) ([[.i .i64 n3]] : List (List D))
theorem te100 : ta100 tu101 tu132 = t100 := (by rw [tu101_eq, tu132_eq] : ta100 tu101 tu132 = ta100 t101 t132).trans (by kernel_rfl)
def tw100 (vs : List Vr) : Rs := ta100 tu101 tu132 (vI vs 0) (vL vs 1) (vI vs 2)
def tp100 (vs : List Vr) : Rs := tu100 (vI vs 0) (vL vs 1) (vI vs 2)
theorem tpw100 : tp100 = tw100 := funext fun vs => by unfold tp100 tw100; rw [tu100_eq, te100]
def th100 (xs : List DV) : Bool × List DV × List (List D) := gOf zr100 zo100 (argsT A100 tp100 xs)
theorem te102 : t102 = t102 := rfl
def tw102 (vs : List Vr) : Rs := t102 (vI vs 0) (vL vs 1) (vI vs 2)
def tp102 (vs : List Vr) : Rs := tu102 (vI vs 0) (vL vs 1) (vI vs 2)
theorem tpw102 : tp102 = tw102 := funext fun vs => by unfold tp102 tw102; rw [tu102_eq, te102]
def th102 (xs : List DV) : Bool × List DV × List (List D) := gOf zr102 zo102 (argsT A102 tp102 xs)
theorem te103 : t103 = t103 := rfl
def tw103 (vs : List Vr) : Rs := t103 (vI vs 0) (vL vs 1)
def tp103 (vs : List Vr) : Rs := tu103 (vI vs 0) (vL vs 1)
theorem tpw103 : tp103 = tw103 := funext fun vs => by unfold tp103 tw103; rw [tu103_eq, te103]
def th103 (xs : List DV) : Bool × List DV × List (List D) := gOf zr103 zo103 (argsT A103 tp103 xs)
def la135o0 (t100 : Int → List (List D) → Int → Rs) (t132 : Int → List (List D) → Int → Rs) (n14 : Int) (l15 : List (List D)) (n16 : Int) (n17 : Int) (n18 : Int) (n22 : Int) (l26 : List (List D)) (q1 : Int → SV → SV → Int → Bool → SV → Rs) : Nat → Int → SV → SV → Int → SV → SV → Rs
  | 0, _, _, _, _, _, _ => none
  | m + 1, n19, v20, v21, n23, v24, v25 =>
    let y1 := decide (n23 < n22)
    if y1 then
     chk (decide (0 ≤ n23) && decide (n23 < l26.length)) <|
     let y2 := l26.getD (n23.toNat) []
     chk (decide (1 ≤ y2.length) && isF z3 0 y2) <|
     let y3 := asI (nthD y2 0)
     let y4 := t132 n14 l15 y3
     chk (okR zr132 zo132 y4) <|
     let k1 := fun (n27 : Int) =>
      let y5 := asB (resC y4 0 0)
      let y6 := asS (resC y4 1 5)
      let y7 := !(!y5)
      la135o0 t100 t132 n14 l15 n16 n17 n18 n22 l26 q1 m n27 (.d (.i .i64 y3)) (SV.op y5 [.i .i64 (asI (resC y4 1 0)), .i .i64 (asI (resC y4 1 1)), .i .i64 (asI (resC y4 1 2)), .i .i64 (asI (resC y4 1 3)), .i .i64 (asI (resC y4 1 4)), .s y6, .l (asL (resC y4 1 6)), .i .i64 (asI (resC y4 1 7)), .i .i64 (asI (resC y4 1 8))]) (w64 (n23 + (1 : Int))) (.d (.b y1)) (.d (.b y7))
     let y8 := asB (resC y4 0 0)
     let y9 := !(!y8)
     if y9 then
      chk (y8) <|
      let y10 := asS (resC y4 1 5)
      k1 (w64 (n19 + (y10.size : Int)))
     else
      k1 n19
    else
     q1 n19 (keepV [832] v20) (keepV [832] v21) n23 y1 (keepV [832] v25)
def ta135 (t100 : Int → List (List D) → Int → Rs) (t132 : Int → List (List D) → Int → Rs) (n1 : Int) (l2 : List (List D)) (n3 : Int) : Rs :=
  let y1 := t100 n1 l2 n3
  chk (okR zr100 zo100 y1) <|
  let y2 := asL (resC y1 0 0)
  la135o0 t100 t132 n1 l2 n3 (0 : Int) (0 : Int) (y2.length : Int) y2
   (fun (n47 : Int) (v48 : SV) (v49 : SV) (n50 : Int) (b51 : Bool) (v52 : SV) =>
    some ([.one (.i .i64 n47), .one (.i .i64 (y2.length : Int))], [])) KK (0 : Int) SV.undef SV.undef (0 : Int) SV.undef SV.undef
theorem te135 : ta135 tu100 tu132 = t135 := (by rw [tu100_eq, tu132_eq] : ta135 tu100 tu132 = ta135 t100 t132).trans (by kernel_rfl)
def tw135 (vs : List Vr) : Rs := ta135 tu100 tu132 (vI vs 0) (vL vs 1) (vI vs 2)
def tp135 (vs : List Vr) : Rs := tu135 (vI vs 0) (vL vs 1) (vI vs 2)
theorem tpw135 : tp135 = tw135 := funext fun vs => by unfold tp135 tw135; rw [tu135_eq, te135]
def th135 (xs : List DV) : Bool × List DV × List (List D) := gOf zr135 zo135 (argsT A135 tp135 xs)
def ta105 (t135 : Int → List (List D) → Int → Rs) (n1 : Int) (l2 : List (List D)) (n3 : Int) (n4 : Int) (n5 : Int) (n6 : Int) (n7 : Int) (s8 : ByteArray) (l9 : List (List D)) (n10 : Int) (n11 : Int) : Rs :=
  let y1 := t135 n1 l2 n3
  chk (okR zr135 zo135 y1) <|
  some ([.one (.b (((decide (n10 > (0 : Int))) && (decide ((asI (resC y1 0 0)) > n10))) || ((decide (n11 > (0 : Int))) && (decide ((asI (resC y1 1 0)) > n11)))))], [])
theorem te105 : ta105 tu135 = t105 := (by rw [tu135_eq] : ta105 tu135 = ta105 t135).trans (by kernel_rfl)
def tw105 (vs : List Vr) : Rs := ta105 tu135 (vI vs 0) (vL vs 1) (vI vs 2) (vI vs 3) (vI vs 4) (vI vs 5) (vI vs 6) (vS vs 7) (vL vs 8) (vI vs 9) (vI vs 10)
def tp105 (vs : List Vr) : Rs := tu105 (vI vs 0) (vL vs 1) (vI vs 2) (vI vs 3) (vI vs 4) (vI vs 5) (vI vs 6) (vS vs 7) (vL vs 8) (vI vs 9) (vI vs 10)
theorem tpw105 : tp105 = tw105 := funext fun vs => by unfold tp105 tw105; rw [tu105_eq, te105]
def th105 (xs : List DV) : Bool × List DV × List (List D) := gOf zr105 zo105 (argsT A105 tp105 xs)
def la134o0 (t105 : Int → List (List D) → Int → Int → Int → Int → Int → ByteArray → List (List D) → Int → Int → Rs) (l10 : List (List D)) (n11 : Int) (l12 : List (List D)) (n13 : Int) (n15 : Int) (q1 : Int → Bool → Bool → Rs) (q2 : SV → Int → Bool → SV → Rs) : Nat → SV → Int → SV → SV → Rs
  | 0, _, _, _, _ => none
  | m + 1, v14, n16, v17, v18 =>
    let y1 := decide (n16 < n15)
    if y1 then
     let y2 := l10.getD n16.toNat []
     chk (decide (0 ≤ n16) && decide (n16 < l10.length) && isRow z64 y2) <|
     let y3 := t105 n11 l12 (asI (nthD y2 0)) (asI (nthD y2 1)) (asI (nthD y2 2)) (asI (nthD y2 3)) (asI (nthD y2 4)) (asS (nthD y2 5)) (asL (nthD y2 6)) (asI (nthD y2 7)) (asI (nthD y2 8))
     chk (okR zr105 zo105 y3) <|
     let y4 := asB (resC y3 0 0)
     if y4 then
      q1 n16 y1 y4
     else
      la134o0 t105 l10 n11 l12 n13 n15 q1 q2 m (.d (.i .i64 n16)) (w64 (n16 + (1 : Int))) (.d (.b y1)) (.d (.b y4))
    else
     q2 (keepV [] v14) n16 y1 (keepV [] v18)
def ta134 (t105 : Int → List (List D) → Int → Int → Int → Int → Int → ByteArray → List (List D) → Int → Int → Rs) (l1 : List (List D)) (n2 : Int) (l3 : List (List D)) : Rs :=
  la134o0 t105 l1 n2 l3 (0 : Int) (l1.length : Int)
   (fun (n35 : Int) (b36 : Bool) (b37 : Bool) =>
    some ([.one (.i .i64 n35)], []))
   (fun (v38 : SV) (n39 : Int) (b40 : Bool) (v41 : SV) =>
    some ([.one (.i .i64 (-1 : Int))], [])) KK SV.undef (0 : Int) SV.undef SV.undef
theorem te134 : ta134 tu105 = t134 := (by rw [tu105_eq] : ta134 tu105 = ta134 t105).trans (by kernel_rfl)
def tw134 (vs : List Vr) : Rs := ta134 tu105 (vL vs 0) (vI vs 1) (vL vs 2)
def tp134 (vs : List Vr) : Rs := tu134 (vL vs 0) (vI vs 1) (vL vs 2)
theorem tpw134 : tp134 = tw134 := funext fun vs => by unfold tp134 tw134; rw [tu134_eq, te134]
def th134 (xs : List DV) : Bool × List DV × List (List D) := gOf zr134 zo134 (argsT A134 tp134 xs)
def ta104 (t134 : List (List D) → Int → List (List D) → Rs) (l1 : List (List D)) (n2 : Int) (l3 : List (List D)) : Rs :=
  let y1 := t134 l1 n2 l3
  chk (okR zr134 zo134 y1) <|
  some ([.one (.b (decide ((asI (resC y1 0 0)) ≥ (0 : Int))))], [])
theorem te104 : ta104 tu134 = t104 := (by rw [tu134_eq] : ta104 tu134 = ta104 t134).trans (by kernel_rfl)
def tw104 (vs : List Vr) : Rs := ta104 tu134 (vL vs 0) (vI vs 1) (vL vs 2)
def tp104 (vs : List Vr) : Rs := tu104 (vL vs 0) (vI vs 1) (vL vs 2)
theorem tpw104 : tp104 = tw104 := funext fun vs => by unfold tp104 tw104; rw [tu104_eq, te104]
def th104 (xs : List DV) : Bool × List DV × List (List D) := gOf zr104 zo104 (argsT A104 tp104 xs)
def la66o4 (t63 : Int → Int → Int → Rs) (t99 : Int → List (List D) → Int → Int → Int → Int → Int → ByteArray → List (List D) → Int → Int → Rs) (t100 : Int → List (List D) → Int → Rs) (t101 : List (List D) → Int → Rs) (t102 : Int → List (List D) → Int → Rs) (t103 : Int → List (List D) → Rs) (t104 : List (List D) → Int → List (List D) → Rs) (n84 : Int) (l85 : List (List D)) (b86 : Bool) (b88 : Bool) (l89 : List (List D)) (n90 : Int) (n91 : Int) (b92 : Bool) (l94 : List (List D)) (n95 : Int) (n99 : Int) (l100 : List (List D)) (l101 : List (List D)) (q1 : SV → SV → Int → Bool → Bool → Int → Int → Int → Int → Int → ByteArray → List (List D) → Int → Int → Rs) (q2 : SV → SV → Int → Bool → SV → Rs) : Nat → SV → SV → Int → SV → SV → Rs
  | 0, _, _, _, _, _ => none
  | m + 1, v87, v93, n96, v97, v98 =>
    let y1 := decide (n96 < n95)
    if y1 then
     let y2 := l94.getD n96.toNat []
     chk (decide (0 ≤ n96) && decide (n96 < l94.length) && isRow z64 y2) <|
     let y3 := asI (nthD y2 0)
     let y4 := t101 l101 y3
     chk (okR zr101 zo101 y4) <|
     let y5 := t102 n99 l100 y3
     let y6 := !(asB (resC y4 0 0))
     let y7 := asI (nthD y2 1)
     let y8 := y7 == (2 : Int)
     chk ((okR zr102 zo102 y5) || !((!y6) && y8)) <|
     let y9 := y6 || (y8 && ((asI (resC y5 0 0)) != (1 : Int)))
     if y9 then
      q1 v87 v93 n96 y1 y9 y3 y7 (asI (nthD y2 2)) (asI (nthD y2 3)) (asI (nthD y2 4)) (asS (nthD y2 5)) (asL (nthD y2 6)) (asI (nthD y2 7)) (asI (nthD y2 8))
     else
      la66o4 t63 t99 t100 t101 t102 t103 t104 n84 l85 b86 b88 l89 n90 n91 b92 l94 n95 n99 l100 l101 q1 q2 m (keepV [64, 4608] v87) (keepV [64, 4608] v93) (w64 (n96 + (1 : Int))) (.d (.b y1)) (.d (.b y9))
    else
     q2 (keepV [64, 4608] v87) (keepV [64, 4608] v93) n96 y1 (keepV [64, 4608] v98)
def la66o1 (t63 : Int → Int → Int → Rs) (t99 : Int → List (List D) → Int → Int → Int → Int → Int → ByteArray → List (List D) → Int → Int → Rs) (t100 : Int → List (List D) → Int → Rs) (t101 : List (List D) → Int → Rs) (t102 : Int → List (List D) → Int → Rs) (t103 : Int → List (List D) → Rs) (t104 : List (List D) → Int → List (List D) → Rs) (n12 : Int) (l13 : List (List D)) (b14 : Bool) (b16 : Bool) (l17 : List (List D)) (n18 : Int) (n22 : Int) (l23 : List (List D)) (q1 : Int → Bool → Bool → Int → Int → Int → Int → Int → ByteArray → List (List D) → Int → Int → Rs) (q2 : SV → Int → Bool → SV → Rs) : Nat → SV → Int → SV → SV → Rs
  | 0, _, _, _, _ => none
  | m + 1, v15, n19, v20, v21 =>
    let y1 := decide (n19 < n18)
    if y1 then
     let y2 := l17.getD n19.toNat []
     chk (decide (0 ≤ n19) && decide (n19 < l17.length) && isRow z64 y2) <|
     let y3 := asI (nthD y2 0)
     let y4 := t63 y3 (1 : Int) (w64 (n22 - (1 : Int)))
     chk (okR zr63 zo63 y4) <|
     let y5 := w64 (n19 - (1 : Int))
     let y6 := l23.getD y5.toNat []
     let y7 := !(asB (resC y4 0 0))
     let y8 := decide (n19 > (0 : Int))
     chk ((decide (0 ≤ y5) && decide (y5 < l23.length) && isRow z64 y6) || !((!y7) && y8)) <|
     let y9 := asI (nthD y2 1)
     let y10 := asI (nthD y2 2)
     let y11 := asI (nthD y2 3)
     let y12 := asI (nthD y2 4)
     let y13 := asS (nthD y2 5)
     let y14 := asL (nthD y2 6)
     let y15 := asI (nthD y2 7)
     let y16 := asI (nthD y2 8)
     let y17 := t99 n22 l23 y3 y9 y10 y11 y12 y13 y14 y15 y16
     let y18 := y7 || (y8 && (decide ((asI (nthD y6 0)) ≥ y3)))
     chk ((okR zr99 zo99 y17) || !(!y18)) <|
     let y19 := y18 || (!(asB (resC y17 0 0)))
     if y19 then
      q1 n19 y1 y19 y3 y9 y10 y11 y12 y13 y14 y15 y16
     else
      la66o1 t63 t99 t100 t101 t102 t103 t104 n12 l13 b14 b16 l17 n18 n22 l23 q1 q2 m (.d (.i .i64 n19)) (w64 (n19 + (1 : Int))) (.d (.b y1)) (.d (.b y19))
    else
     q2 (keepV [64] v15) n19 y1 (keepV [64] v21)
def ta66 (t63 : Int → Int → Int → Rs) (t99 : Int → List (List D) → Int → Int → Int → Int → Int → ByteArray → List (List D) → Int → Int → Rs) (t100 : Int → List (List D) → Int → Rs) (t101 : List (List D) → Int → Rs) (t102 : Int → List (List D) → Int → Rs) (t103 : Int → List (List D) → Rs) (t104 : List (List D) → Int → List (List D) → Rs) (n1 : Int) (l2 : List (List D)) : Rs :=
  let y1 := t63 n1 (2 : Int) (100000 : Int)
  chk (okR zr63 zo63 y1) <|
  let y2 := t63 (l2.length : Int) (1 : Int) (24 : Int)
  let y3 := !(asB (resC y1 0 0))
  chk ((okR zr63 zo63 y2) || !(!y3)) <|
  let y4 := l2.getD (0 : Int).toNat []
  let y5 := y3 || (!(asB (resC y2 0 0)))
  chk ((decide (0 ≤ (0 : Int)) && decide ((0 : Int) < l2.length) && isRow z64 y4) || !(!y5)) <|
  let y6 := l2.getD (0 : Int).toNat []
  let y7 := y5 || ((asI (nthD y4 0)) != (1 : Int))
  chk ((decide (0 ≤ (0 : Int)) && decide ((0 : Int) < l2.length) && isRow z64 y6) || !(!y7)) <|
  let y8 := y7 || ((asI (nthD y6 1)) != (2 : Int))
  if y8 then
   some ([.one (.b false)], [])
  else
   let y9 := (l2.length : Int)
   la66o1 t63 t99 t100 t101 t102 t103 t104 n1 l2 false y8 l2 y9 n1 l2
    (fun (n52 : Int) (b53 : Bool) (b54 : Bool) (n55 : Int) (n56 : Int) (n57 : Int) (n58 : Int) (n59 : Int) (s60 : ByteArray) (l61 : List (List D)) (n62 : Int) (n63 : Int) =>
     some ([.one (.b false)], []))
    (fun (v64 : SV) (n65 : Int) (b66 : Bool) (v67 : SV) =>
     let y10 := t100 n1 l2 (1 : Int)
     chk (okR zr100 zo100 y10) <|
     chk (decide (0 ≤ (1 : Int) ∧ (1 : Int) ≤ l2.length ∧ (l2.getD 0 z64).length = z64.length)) <|
     let y11 := l2.drop (1 : Int).toNat
     la66o4 t63 t99 t100 t101 t102 t103 t104 n1 l2 false y8 l2 y9 n65 b66 y11 (y11.length : Int) n1 l2 (asL (resC y10 0 0))
      (fun (v139 : SV) (v140 : SV) (n141 : Int) (b142 : Bool) (b143 : Bool) (n144 : Int) (n145 : Int) (n146 : Int) (n147 : Int) (n148 : Int) (s149 : ByteArray) (l150 : List (List D)) (n151 : Int) (n152 : Int) =>
       some ([.one (.b false)], []))
      (fun (v153 : SV) (v154 : SV) (n155 : Int) (b156 : Bool) (v157 : SV) =>
       chk (okR zr103 zo103 (t103 n1 l2)) <|
       let y12 := t104 l2 n1 l2
       let y13 := decide ((asI (resC (t103 n1 l2) 0 0)) ≤ (400 : Int))
       chk ((okR zr104 zo104 y12) || !y13) <|
       some ([.one (.b (y13 && (!(asB (resC y12 0 0)))))], [])) KK v64 v67 (0 : Int) SV.undef SV.undef) KK SV.undef (0 : Int) SV.undef SV.undef
theorem te66 : ta66 tu63 tu99 tu100 tu101 tu102 tu103 tu104 = t66 := (by rw [tu63_eq, tu99_eq, tu100_eq, tu101_eq, tu102_eq, tu103_eq, tu104_eq] : ta66 tu63 tu99 tu100 tu101 tu102 tu103 tu104 = ta66 t63 t99 t100 t101 t102 t103 t104).trans (by kernel_rfl)
def tw66 (vs : List Vr) : Rs := ta66 tu63 tu99 tu100 tu101 tu102 tu103 tu104 (vI vs 0) (vL vs 1)
def tp66 (vs : List Vr) : Rs := tu66 (vI vs 0) (vL vs 1)
theorem tpw66 : tp66 = tw66 := funext fun vs => by unfold tp66 tw66; rw [tu66_eq, te66]
def th66 (xs : List DV) : Bool × List DV × List (List D) := gOf zr66 zo66 (argsT A66 tp66 xs)
def la25o0 (t63 : Int → Int → Int → Rs) (t64 : Int → ByteArray → Rs) (t65 : List (List D) → Rs) (t66 : Int → List (List D) → Rs) (n20 : Int) (l21 : List (List D)) (n22 : Int) (l23 : List (List D)) (l24 : List (List D)) (b25 : Bool) (l27 : List (List D)) (n28 : Int) (n32 : Int) (l33 : List (List D)) (n34 : Int) (l35 : List (List D)) (l36 : List (List D)) (q1 : Int → Bool → Bool → Int → Int → Int → Int → ByteArray → Rs) (q2 : SV → Int → Bool → SV → Rs) : Nat → SV → Int → SV → SV → Rs
  | 0, _, _, _, _ => none
  | m + 1, v26, n29, v30, v31 =>
    let y1 := decide (n29 < n28)
    if y1 then
     let y2 := l27.getD n29.toNat []
     chk (decide (0 ≤ n29) && decide (n29 < l27.length) && isRow z81 y2) <|
     let y3 := asI (nthD y2 0)
     let y4 := t63 y3 (1 : Int) (3 : Int)
     chk (okR zr63 zo63 y4) <|
     let y5 := w64 (n29 - (1 : Int))
     let y6 := l36.getD y5.toNat []
     let y7 := !(asB (resC y4 0 0))
     let y8 := decide (n29 > (0 : Int))
     chk ((decide (0 ≤ y5) && decide (y5 < l36.length) && isRow z81 y6) || !((!y7) && y8)) <|
     let y9 := asI (nthD y2 1)
     let y10 := t63 y9 (1 : Int) (1000000 : Int)
     let y11 := y7 || (y8 && (decide ((asI (nthD y6 0)) ≥ y3)))
     chk ((okR zr63 zo63 y10) || !(!y11)) <|
     let y12 := asI (nthD y2 2)
     let y13 := t63 y12 (1 : Int) (100000 : Int)
     let y14 := y11 || (!(asB (resC y10 0 0)))
     chk ((okR zr63 zo63 y13) || !(!y14)) <|
     let y15 := asI (nthD y2 3)
     let y16 := asS (nthD y2 4)
     let y17 := t64 y15 y16
     let y18 := y14 || (!(asB (resC y13 0 0)))
     chk ((okR zr64 zo64 y17) || !(!y18)) <|
     let y19 := y18 || (!(asB (resC y17 0 0)))
     if y19 then
      q1 n29 y1 y19 y3 y9 y12 y15 y16
     else
      la25o0 t63 t64 t65 t66 n20 l21 n22 l23 l24 b25 l27 n28 n32 l33 n34 l35 l36 q1 q2 m (.d (.i .i64 n29)) (w64 (n29 + (1 : Int))) (.d (.b y1)) (.d (.b y19))
    else
     q2 (keepV [64] v26) n29 y1 (keepV [64] v31)
def ta25 (t63 : Int → Int → Int → Rs) (t64 : Int → ByteArray → Rs) (t65 : List (List D) → Rs) (t66 : Int → List (List D) → Rs) (n1 : Int) (l2 : List (List D)) (n3 : Int) (l4 : List (List D)) (l5 : List (List D)) : Rs :=
  la25o0 t63 t64 t65 t66 n1 l2 n3 l4 l5 false l5 (l5.length : Int) n1 l2 n3 l4 l5
   (fun (n66 : Int) (b67 : Bool) (b68 : Bool) (n69 : Int) (n70 : Int) (n71 : Int) (n72 : Int) (s73 : ByteArray) =>
    some ([.one (.b false)], []))
   (fun (v74 : SV) (n75 : Int) (b76 : Bool) (v77 : SV) =>
    let y1 := t63 n3 (0 : Int) (30 : Int)
    chk (okR zr63 zo63 y1) <|
    let y2 := asB (resC y1 0 0)
    chk ((okR zr65 zo65 (t65 l4)) || !y2) <|
    let y3 := y2 && (asB (resC (t65 l4) 0 0))
    chk ((okR zr66 zo66 (t66 n1 l2)) || !y3) <|
    some ([.one (.b (y3 && (asB (resC (t66 n1 l2) 0 0))))], [])) KK SV.undef (0 : Int) SV.undef SV.undef
theorem te25 : ta25 tu63 tu64 tu65 tu66 = t25 := (by rw [tu63_eq, tu64_eq, tu65_eq, tu66_eq] : ta25 tu63 tu64 tu65 tu66 = ta25 t63 t64 t65 t66).trans (by kernel_rfl)
def tw25 (vs : List Vr) : Rs := ta25 tu63 tu64 tu65 tu66 (vI vs 0) (vL vs 1) (vI vs 2) (vL vs 3) (vL vs 4)
def tp25 (vs : List Vr) : Rs := tu25 (vI vs 0) (vL vs 1) (vI vs 2) (vL vs 3) (vL vs 4)
theorem tpw25 : tp25 = tw25 := funext fun vs => by unfold tp25 tw25; rw [tu25_eq, te25]
def th25 (xs : List DV) : Bool × List DV × List (List D) := gOf zr25 zo25 (argsT A25 tp25 xs)
def la29o0 (t25 : Int → List (List D) → Int → List (List D) → List (List D) → Rs) (l7 : List (List D)) (b8 : Bool) (l9 : List (List D)) (n10 : Int) (q1 : Int → Bool → Bool → Int → List (List D) → Int → List (List D) → List (List D) → Rs) (q2 : Int → Bool → SV → Rs) : Nat → Int → SV → SV → Rs
  | 0, _, _, _ => none
  | m + 1, n11, v12, v13 =>
    let y1 := decide (n11 < n10)
    if y1 then
     let y2 := l9.getD n11.toNat []
     chk (decide (0 ≤ n11) && decide (n11 < l9.length) && isRow z28 y2) <|
     let y3 := asI (nthD y2 0)
     let y4 := asL (nthD y2 1)
     let y5 := asI (nthD y2 2)
     let y6 := asL (nthD y2 3)
     let y7 := asL (nthD y2 4)
     let y8 := t25 y3 y4 y5 y6 y7
     chk (okR zr25 zo25 y8) <|
     let y9 := !(asB (resC y8 0 0))
     if y9 then
      q1 n11 y1 y9 y3 y4 y5 y6 y7
     else
      la29o0 t25 l7 b8 l9 n10 q1 q2 m (w64 (n11 + (1 : Int))) (.d (.b y1)) (.d (.b y9))
    else
     q2 n11 y1 (keepV [] v13)
def ta29 (t25 : Int → List (List D) → Int → List (List D) → List (List D) → Rs) (l1 : List (List D)) : Rs :=
  la29o0 t25 l1 false l1 (l1.length : Int)
   (fun (n32 : Int) (b33 : Bool) (b34 : Bool) (n35 : Int) (l36 : List (List D)) (n37 : Int) (l38 : List (List D)) (l39 : List (List D)) =>
    some ([.one (.b false)], []))
   (fun (n40 : Int) (b41 : Bool) (v42 : SV) =>
    some ([.one (.b ((l1.length : Int) == (3 : Int)))], [])) KK (0 : Int) SV.undef SV.undef
theorem te29 : ta29 tu25 = t29 := (by rw [tu25_eq] : ta29 tu25 = ta29 t25).trans (by kernel_rfl)
def tw29 (vs : List Vr) : Rs := ta29 tu25 (vL vs 0)
def tp29 (vs : List Vr) : Rs := tu29 (vL vs 0)
theorem tpw29 : tp29 = tw29 := funext fun vs => by unfold tp29 tw29; rw [tu29_eq, te29]
def th29 (xs : List DV) : Bool × List DV × List (List D) := gOf zr29 zo29 (argsT A29 tp29 xs)
theorem te143 : t143 = t143 := rfl
def tw143 (vs : List Vr) : Rs := t143 (vS vs 0) (vI vs 1) (vS vs 2) (vI vs 3)
def tp143 (vs : List Vr) : Rs := tu143 (vS vs 0) (vI vs 1) (vS vs 2) (vI vs 3)
theorem tpw143 : tp143 = tw143 := funext fun vs => by unfold tp143 tw143; rw [tu143_eq, te143]
def th143 (xs : List DV) : Bool × List DV × List (List D) := gOf zr143 zo143 (argsT A143 tp143 xs)
def la137o1 (t143 : ByteArray → Int → ByteArray → Int → Rs) (l8 : List (List D)) (l9 : List (List D)) (b10 : Bool) (b12 : Bool) (q1 : Int → Bool → Bool → Rs) (q2 : Int → Bool → SV → Rs) : Nat → Int → SV → SV → Rs
  | 0, _, _, _ => none
  | m + 1, n11, v13, v14 =>
    let y1 := decide (n11 < (l8.length : Int))
    if y1 then
     let y2 := l8.getD n11.toNat []
     chk (decide (0 ≤ n11) && decide (n11 < l8.length) && isRow z129 y2) <|
     let y3 := l9.getD n11.toNat []
     chk (decide (0 ≤ n11) && decide (n11 < l9.length) && isRow z129 y3) <|
     let y4 := t143 (asS (nthD y2 0)) (asI (nthD y2 1)) (asS (nthD y3 0)) (asI (nthD y3 1))
     chk (okR zr143 zo143 y4) <|
     let y5 := !(asB (resC y4 0 0))
     if y5 then
      q1 n11 y1 y5
     else
      la137o1 t143 l8 l9 b10 b12 q1 q2 m (w64 (n11 + (1 : Int))) (.d (.b y1)) (.d (.b y5))
    else
     q2 n11 y1 (keepV [] v14)
def ta137 (t143 : ByteArray → Int → ByteArray → Int → Rs) (l1 : List (List D)) (l2 : List (List D)) : Rs :=
  let y1 := (l1.length : Int) != (l2.length : Int)
  if y1 then
   some ([.one (.b false)], [])
  else
   la137o1 t143 l1 l2 false y1
    (fun (n28 : Int) (b29 : Bool) (b30 : Bool) =>
     some ([.one (.b false)], []))
    (fun (n31 : Int) (b32 : Bool) (v33 : SV) =>
     some ([.one (.b true)], [])) KK (0 : Int) SV.undef SV.undef
theorem te137 : ta137 tu143 = t137 := (by rw [tu143_eq] : ta137 tu143 = ta137 t143).trans (by kernel_rfl)
def tw137 (vs : List Vr) : Rs := ta137 tu143 (vL vs 0) (vL vs 1)
def tp137 (vs : List Vr) : Rs := tu137 (vL vs 0) (vL vs 1)
theorem tpw137 : tp137 = tw137 := funext fun vs => by unfold tp137 tw137; rw [tu137_eq, te137]
def th137 (xs : List DV) : Bool × List DV × List (List D) := gOf zr137 zo137 (argsT A137 tp137 xs)
def ta120 (t137 : List (List D) → List (List D) → Rs) (n1 : Int) (n2 : Int) (n3 : Int) (n4 : Int) (n5 : Int) (s6 : ByteArray) (l7 : List (List D)) (n8 : Int) (n9 : Int) (n10 : Int) (n11 : Int) (n12 : Int) (n13 : Int) (n14 : Int) (s15 : ByteArray) (l16 : List (List D)) (n17 : Int) (n18 : Int) : Rs :=
  if n1 != n10 then
   some ([.one (.b false)], [])
  else
   if n2 != n11 then
    some ([.one (.b false)], [])
   else
    if n3 != n12 then
     some ([.one (.b false)], [])
    else
     if n4 != n13 then
      some ([.one (.b false)], [])
     else
      if n5 != n14 then
       some ([.one (.b false)], [])
      else
       if !(s6.toList == s15.toList) then
        some ([.one (.b false)], [])
       else
        chk (okR zr137 zo137 (t137 l7 l16)) <|
        if !(asB (resC (t137 l7 l16) 0 0)) then
         some ([.one (.b false)], [])
        else
         if n8 != n17 then
          some ([.one (.b false)], [])
         else
          if n9 != n18 then
           some ([.one (.b false)], [])
          else
           some ([.one (.b true)], [])
theorem te120 : ta120 tu137 = t120 := (by rw [tu137_eq] : ta120 tu137 = ta120 t137).trans (by kernel_rfl)
def tw120 (vs : List Vr) : Rs := ta120 tu137 (vI vs 0) (vI vs 1) (vI vs 2) (vI vs 3) (vI vs 4) (vS vs 5) (vL vs 6) (vI vs 7) (vI vs 8) (vI vs 9) (vI vs 10) (vI vs 11) (vI vs 12) (vI vs 13) (vS vs 14) (vL vs 15) (vI vs 16) (vI vs 17)
def tp120 (vs : List Vr) : Rs := tu120 (vI vs 0) (vI vs 1) (vI vs 2) (vI vs 3) (vI vs 4) (vS vs 5) (vL vs 6) (vI vs 7) (vI vs 8) (vI vs 9) (vI vs 10) (vI vs 11) (vI vs 12) (vI vs 13) (vS vs 14) (vL vs 15) (vI vs 16) (vI vs 17)
theorem tpw120 : tp120 = tw120 := funext fun vs => by unfold tp120 tw120; rw [tu120_eq, te120]
def th120 (xs : List DV) : Bool × List DV × List (List D) := gOf zr120 zo120 (argsT A120 tp120 xs)
def la83o1 (t120 : Int → Int → Int → Int → Int → ByteArray → List (List D) → Int → Int → Int → Int → Int → Int → Int → ByteArray → List (List D) → Int → Int → Rs) (l8 : List (List D)) (l9 : List (List D)) (b10 : Bool) (b12 : Bool) (q1 : Int → Bool → Bool → Rs) (q2 : Int → Bool → SV → Rs) : Nat → Int → SV → SV → Rs
  | 0, _, _, _ => none
  | m + 1, n11, v13, v14 =>
    let y1 := decide (n11 < (l8.length : Int))
    if y1 then
     let y2 := l8.getD n11.toNat []
     chk (decide (0 ≤ n11) && decide (n11 < l8.length) && isRow z64 y2) <|
     let y3 := l9.getD n11.toNat []
     chk (decide (0 ≤ n11) && decide (n11 < l9.length) && isRow z64 y3) <|
     let y4 := t120 (asI (nthD y2 0)) (asI (nthD y2 1)) (asI (nthD y2 2)) (asI (nthD y2 3)) (asI (nthD y2 4)) (asS (nthD y2 5)) (asL (nthD y2 6)) (asI (nthD y2 7)) (asI (nthD y2 8)) (asI (nthD y3 0)) (asI (nthD y3 1)) (asI (nthD y3 2)) (asI (nthD y3 3)) (asI (nthD y3 4)) (asS (nthD y3 5)) (asL (nthD y3 6)) (asI (nthD y3 7)) (asI (nthD y3 8))
     chk (okR zr120 zo120 y4) <|
     let y5 := !(asB (resC y4 0 0))
     if y5 then
      q1 n11 y1 y5
     else
      la83o1 t120 l8 l9 b10 b12 q1 q2 m (w64 (n11 + (1 : Int))) (.d (.b y1)) (.d (.b y5))
    else
     q2 n11 y1 (keepV [] v14)
def ta83 (t120 : Int → Int → Int → Int → Int → ByteArray → List (List D) → Int → Int → Int → Int → Int → Int → Int → ByteArray → List (List D) → Int → Int → Rs) (l1 : List (List D)) (l2 : List (List D)) : Rs :=
  let y1 := (l1.length : Int) != (l2.length : Int)
  if y1 then
   some ([.one (.b false)], [])
  else
   la83o1 t120 l1 l2 false y1
    (fun (n28 : Int) (b29 : Bool) (b30 : Bool) =>
     some ([.one (.b false)], []))
    (fun (n31 : Int) (b32 : Bool) (v33 : SV) =>
     some ([.one (.b true)], [])) KK (0 : Int) SV.undef SV.undef
theorem te83 : ta83 tu120 = t83 := (by rw [tu120_eq] : ta83 tu120 = ta83 t120).trans (by kernel_rfl)
def tw83 (vs : List Vr) : Rs := ta83 tu120 (vL vs 0) (vL vs 1)
def tp83 (vs : List Vr) : Rs := tu83 (vL vs 0) (vL vs 1)
theorem tpw83 : tp83 = tw83 := funext fun vs => by unfold tp83 tw83; rw [tu83_eq, te83]
def th83 (xs : List DV) : Bool × List DV × List (List D) := gOf zr83 zo83 (argsT A83 tp83 xs)
def ta42 (t83 : List (List D) → List (List D) → Rs) (n1 : Int) (l2 : List (List D)) (n3 : Int) (l4 : List (List D)) : Rs :=
  if n1 != n3 then
   some ([.one (.b false)], [])
  else
   chk (okR zr83 zo83 (t83 l2 l4)) <|
   if !(asB (resC (t83 l2 l4) 0 0)) then
    some ([.one (.b false)], [])
   else
    some ([.one (.b true)], [])
theorem te42 : ta42 tu83 = t42 := (by rw [tu83_eq] : ta42 tu83 = ta42 t83).trans (by kernel_rfl)
def tw42 (vs : List Vr) : Rs := ta42 tu83 (vI vs 0) (vL vs 1) (vI vs 2) (vL vs 3)
def tp42 (vs : List Vr) : Rs := tu42 (vI vs 0) (vL vs 1) (vI vs 2) (vL vs 3)
theorem tpw42 : tp42 = tw42 := funext fun vs => by unfold tp42 tw42; rw [tu42_eq, te42]
def th42 (xs : List DV) : Bool × List DV × List (List D) := gOf zr42 zo42 (argsT A42 tp42 xs)
theorem te84 : t84 = t84 := rfl
def tw84 (vs : List Vr) : Rs := t84 (vI vs 0) (vI vs 1) (vI vs 2) (vI vs 3) (vI vs 4) (vI vs 5) (vI vs 6) (vI vs 7) (vI vs 8) (vI vs 9)
def tp84 (vs : List Vr) : Rs := tu84 (vI vs 0) (vI vs 1) (vI vs 2) (vI vs 3) (vI vs 4) (vI vs 5) (vI vs 6) (vI vs 7) (vI vs 8) (vI vs 9)
theorem tpw84 : tp84 = tw84 := funext fun vs => by unfold tp84 tw84; rw [tu84_eq, te84]
def th84 (xs : List DV) : Bool × List DV × List (List D) := gOf zr84 zo84 (argsT A84 tp84 xs)
def la43o1 (t84 : Int → Int → Int → Int → Int → Int → Int → Int → Int → Int → Rs) (l8 : List (List D)) (l9 : List (List D)) (b10 : Bool) (b12 : Bool) (q1 : Int → Bool → Bool → Rs) (q2 : Int → Bool → SV → Rs) : Nat → Int → SV → SV → Rs
  | 0, _, _, _ => none
  | m + 1, n11, v13, v14 =>
    let y1 := decide (n11 < (l8.length : Int))
    if y1 then
     let y2 := l8.getD n11.toNat []
     chk (decide (0 ≤ n11) && decide (n11 < l8.length) && isRow z90 y2) <|
     let y3 := l9.getD n11.toNat []
     chk (decide (0 ≤ n11) && decide (n11 < l9.length) && isRow z90 y3) <|
     let y4 := t84 (asI (nthD y2 0)) (asI (nthD y2 1)) (asI (nthD y2 2)) (asI (nthD y2 3)) (asI (nthD y2 4)) (asI (nthD y3 0)) (asI (nthD y3 1)) (asI (nthD y3 2)) (asI (nthD y3 3)) (asI (nthD y3 4))
     chk (okR zr84 zo84 y4) <|
     let y5 := !(asB (resC y4 0 0))
     if y5 then
      q1 n11 y1 y5
     else
      la43o1 t84 l8 l9 b10 b12 q1 q2 m (w64 (n11 + (1 : Int))) (.d (.b y1)) (.d (.b y5))
    else
     q2 n11 y1 (keepV [] v14)
def ta43 (t84 : Int → Int → Int → Int → Int → Int → Int → Int → Int → Int → Rs) (l1 : List (List D)) (l2 : List (List D)) : Rs :=
  let y1 := (l1.length : Int) != (l2.length : Int)
  if y1 then
   some ([.one (.b false)], [])
  else
   la43o1 t84 l1 l2 false y1
    (fun (n28 : Int) (b29 : Bool) (b30 : Bool) =>
     some ([.one (.b false)], []))
    (fun (n31 : Int) (b32 : Bool) (v33 : SV) =>
     some ([.one (.b true)], [])) KK (0 : Int) SV.undef SV.undef
theorem te43 : ta43 tu84 = t43 := (by rw [tu84_eq] : ta43 tu84 = ta43 t84).trans (by kernel_rfl)
def tw43 (vs : List Vr) : Rs := ta43 tu84 (vL vs 0) (vL vs 1)
def tp43 (vs : List Vr) : Rs := tu43 (vL vs 0) (vL vs 1)
theorem tpw43 : tp43 = tw43 := funext fun vs => by unfold tp43 tw43; rw [tu43_eq, te43]
def th43 (xs : List DV) : Bool × List DV × List (List D) := gOf zr43 zo43 (argsT A43 tp43 xs)
theorem te121 : t121 = t121 := rfl
def tw121 (vs : List Vr) : Rs := t121 (vI vs 0) (vS vs 1) (vI vs 2) (vS vs 3)
def tp121 (vs : List Vr) : Rs := tu121 (vI vs 0) (vS vs 1) (vI vs 2) (vS vs 3)
theorem tpw121 : tp121 = tw121 := funext fun vs => by unfold tp121 tw121; rw [tu121_eq, te121]
def th121 (xs : List DV) : Bool × List DV × List (List D) := gOf zr121 zo121 (argsT A121 tp121 xs)
def ta85 (t121 : Int → ByteArray → Int → ByteArray → Rs) (n1 : Int) (n2 : Int) (n3 : Int) (n4 : Int) (s5 : ByteArray) (n6 : Int) (n7 : Int) (n8 : Int) (n9 : Int) (s10 : ByteArray) : Rs :=
  if n1 != n6 then
   some ([.one (.b false)], [])
  else
   if n2 != n7 then
    some ([.one (.b false)], [])
   else
    if n3 != n8 then
     some ([.one (.b false)], [])
    else
     let y1 := t121 n4 s5 n9 s10
     chk (okR zr121 zo121 y1) <|
     if !(asB (resC y1 0 0)) then
      some ([.one (.b false)], [])
     else
      some ([.one (.b true)], [])
theorem te85 : ta85 tu121 = t85 := (by rw [tu121_eq] : ta85 tu121 = ta85 t121).trans (by kernel_rfl)
def tw85 (vs : List Vr) : Rs := ta85 tu121 (vI vs 0) (vI vs 1) (vI vs 2) (vI vs 3) (vS vs 4) (vI vs 5) (vI vs 6) (vI vs 7) (vI vs 8) (vS vs 9)
def tp85 (vs : List Vr) : Rs := tu85 (vI vs 0) (vI vs 1) (vI vs 2) (vI vs 3) (vS vs 4) (vI vs 5) (vI vs 6) (vI vs 7) (vI vs 8) (vS vs 9)
theorem tpw85 : tp85 = tw85 := funext fun vs => by unfold tp85 tw85; rw [tu85_eq, te85]
def th85 (xs : List DV) : Bool × List DV × List (List D) := gOf zr85 zo85 (argsT A85 tp85 xs)
def la44o1 (t85 : Int → Int → Int → Int → ByteArray → Int → Int → Int → Int → ByteArray → Rs) (l8 : List (List D)) (l9 : List (List D)) (b10 : Bool) (b12 : Bool) (q1 : Int → Bool → Bool → Rs) (q2 : Int → Bool → SV → Rs) : Nat → Int → SV → SV → Rs
  | 0, _, _, _ => none
  | m + 1, n11, v13, v14 =>
    let y1 := decide (n11 < (l8.length : Int))
    if y1 then
     let y2 := l8.getD n11.toNat []
     chk (decide (0 ≤ n11) && decide (n11 < l8.length) && isRow z81 y2) <|
     let y3 := l9.getD n11.toNat []
     chk (decide (0 ≤ n11) && decide (n11 < l9.length) && isRow z81 y3) <|
     let y4 := t85 (asI (nthD y2 0)) (asI (nthD y2 1)) (asI (nthD y2 2)) (asI (nthD y2 3)) (asS (nthD y2 4)) (asI (nthD y3 0)) (asI (nthD y3 1)) (asI (nthD y3 2)) (asI (nthD y3 3)) (asS (nthD y3 4))
     chk (okR zr85 zo85 y4) <|
     let y5 := !(asB (resC y4 0 0))
     if y5 then
      q1 n11 y1 y5
     else
      la44o1 t85 l8 l9 b10 b12 q1 q2 m (w64 (n11 + (1 : Int))) (.d (.b y1)) (.d (.b y5))
    else
     q2 n11 y1 (keepV [] v14)
def ta44 (t85 : Int → Int → Int → Int → ByteArray → Int → Int → Int → Int → ByteArray → Rs) (l1 : List (List D)) (l2 : List (List D)) : Rs :=
  let y1 := (l1.length : Int) != (l2.length : Int)
  if y1 then
   some ([.one (.b false)], [])
  else
   la44o1 t85 l1 l2 false y1
    (fun (n28 : Int) (b29 : Bool) (b30 : Bool) =>
     some ([.one (.b false)], []))
    (fun (n31 : Int) (b32 : Bool) (v33 : SV) =>
     some ([.one (.b true)], [])) KK (0 : Int) SV.undef SV.undef
theorem te44 : ta44 tu85 = t44 := (by rw [tu85_eq] : ta44 tu85 = ta44 t85).trans (by kernel_rfl)
def tw44 (vs : List Vr) : Rs := ta44 tu85 (vL vs 0) (vL vs 1)
def tp44 (vs : List Vr) : Rs := tu44 (vL vs 0) (vL vs 1)
theorem tpw44 : tp44 = tw44 := funext fun vs => by unfold tp44 tw44; rw [tu44_eq, te44]
def th44 (xs : List DV) : Bool × List DV × List (List D) := gOf zr44 zo44 (argsT A44 tp44 xs)
def ta14 (t42 : Int → List (List D) → Int → List (List D) → Rs) (t43 : List (List D) → List (List D) → Rs) (t44 : List (List D) → List (List D) → Rs) (n1 : Int) (l2 : List (List D)) (n3 : Int) (l4 : List (List D)) (l5 : List (List D)) (n6 : Int) (l7 : List (List D)) (n8 : Int) (l9 : List (List D)) (l10 : List (List D)) : Rs :=
  let y1 := t42 n1 l2 n6 l7
  chk (okR zr42 zo42 y1) <|
  if !(asB (resC y1 0 0)) then
   some ([.one (.b false)], [])
  else
   if n3 != n8 then
    some ([.one (.b false)], [])
   else
    chk (okR zr43 zo43 (t43 l4 l9)) <|
    if !(asB (resC (t43 l4 l9) 0 0)) then
     some ([.one (.b false)], [])
    else
     chk (okR zr44 zo44 (t44 l5 l10)) <|
     if !(asB (resC (t44 l5 l10) 0 0)) then
      some ([.one (.b false)], [])
     else
      some ([.one (.b true)], [])
theorem te14 : ta14 tu42 tu43 tu44 = t14 := (by rw [tu42_eq, tu43_eq, tu44_eq] : ta14 tu42 tu43 tu44 = ta14 t42 t43 t44).trans (by kernel_rfl)
def tw14 (vs : List Vr) : Rs := ta14 tu42 tu43 tu44 (vI vs 0) (vL vs 1) (vI vs 2) (vL vs 3) (vL vs 4) (vI vs 5) (vL vs 6) (vI vs 7) (vL vs 8) (vL vs 9)
def tp14 (vs : List Vr) : Rs := tu14 (vI vs 0) (vL vs 1) (vI vs 2) (vL vs 3) (vL vs 4) (vI vs 5) (vL vs 6) (vI vs 7) (vL vs 8) (vL vs 9)
theorem tpw14 : tp14 = tw14 := funext fun vs => by unfold tp14 tw14; rw [tu14_eq, te14]
def th14 (xs : List DV) : Bool × List DV × List (List D) := gOf zr14 zo14 (argsT A14 tp14 xs)
def la19o1 (t14 : Int → List (List D) → Int → List (List D) → List (List D) → Int → List (List D) → Int → List (List D) → List (List D) → Rs) (l8 : List (List D)) (l9 : List (List D)) (b10 : Bool) (b12 : Bool) (q1 : Int → Bool → Bool → Rs) (q2 : Int → Bool → SV → Rs) : Nat → Int → SV → SV → Rs
  | 0, _, _, _ => none
  | m + 1, n11, v13, v14 =>
    let y1 := decide (n11 < (l8.length : Int))
    if y1 then
     let y2 := l8.getD n11.toNat []
     chk (decide (0 ≤ n11) && decide (n11 < l8.length) && isRow z28 y2) <|
     let y3 := l9.getD n11.toNat []
     chk (decide (0 ≤ n11) && decide (n11 < l9.length) && isRow z28 y3) <|
     let y4 := t14 (asI (nthD y2 0)) (asL (nthD y2 1)) (asI (nthD y2 2)) (asL (nthD y2 3)) (asL (nthD y2 4)) (asI (nthD y3 0)) (asL (nthD y3 1)) (asI (nthD y3 2)) (asL (nthD y3 3)) (asL (nthD y3 4))
     chk (okR zr14 zo14 y4) <|
     let y5 := !(asB (resC y4 0 0))
     if y5 then
      q1 n11 y1 y5
     else
      la19o1 t14 l8 l9 b10 b12 q1 q2 m (w64 (n11 + (1 : Int))) (.d (.b y1)) (.d (.b y5))
    else
     q2 n11 y1 (keepV [] v14)
def ta19 (t14 : Int → List (List D) → Int → List (List D) → List (List D) → Int → List (List D) → Int → List (List D) → List (List D) → Rs) (l1 : List (List D)) (l2 : List (List D)) : Rs :=
  let y1 := (l1.length : Int) != (l2.length : Int)
  if y1 then
   some ([.one (.b false)], [])
  else
   la19o1 t14 l1 l2 false y1
    (fun (n28 : Int) (b29 : Bool) (b30 : Bool) =>
     some ([.one (.b false)], []))
    (fun (n31 : Int) (b32 : Bool) (v33 : SV) =>
     some ([.one (.b true)], [])) KK (0 : Int) SV.undef SV.undef
theorem te19 : ta19 tu14 = t19 := (by rw [tu14_eq] : ta19 tu14 = ta19 t14).trans (by kernel_rfl)
def tw19 (vs : List Vr) : Rs := ta19 tu14 (vL vs 0) (vL vs 1)
def tp19 (vs : List Vr) : Rs := tu19 (vL vs 0) (vL vs 1)
theorem tpw19 : tp19 = tw19 := funext fun vs => by unfold tp19 tw19; rw [tu19_eq, te19]
def th19 (xs : List DV) : Bool × List DV × List (List D) := gOf zr19 zo19 (argsT A19 tp19 xs)
def ta6 (t19 : List (List D) → List (List D) → Rs) (t26 : List (List D) → Int → Rs) (t27 : List (List D) → Rs) (t28 : List (List D) → Rs) (t29 : List (List D) → Rs) (l1 : List (List D)) : Rs :=
  let y1 := t26 l1 (1048576 : Int)
  chk (okR zr26 zo26 y1) <|
  if decide ((asI (resC y1 0 0)) < (0 : Int)) then
   some ([.one (.b true)], [])
  else
   chk (okR zr28 zo28 (t28 l1)) <|
   let y2 := t27 (asL (resC (t28 l1) 0 0))
   chk (okR zr27 zo27 y2) <|
   chk (okR zr28 zo28 (t28 l1)) <|
   let y3 := asL (resC (t28 l1) 0 0)
   let y4 := t29 y3
   chk (okR zr29 zo29 y4) <|
   if !((asB (resC y4 0 0)) == (asB (resC y2 0 0))) then
    some ([.one (.b false)], [])
   else
    chk (okR zr28 zo28 (t28 l1)) <|
    let y5 := t19 y3 (asL (resC (t28 l1) 0 0))
    chk (okR zr19 zo19 y5) <|
    if !(asB (resC y5 0 0)) then
     some ([.one (.b false)], [])
    else
     some ([.one (.b true)], [])
theorem te6 : ta6 tu19 tu26 tu27 tu28 tu29 = t6 := (by rw [tu19_eq, tu26_eq, tu27_eq, tu28_eq, tu29_eq] : ta6 tu19 tu26 tu27 tu28 tu29 = ta6 t19 t26 t27 t28 t29).trans (by kernel_rfl)
def tw6 (vs : List Vr) : Rs := ta6 tu19 tu26 tu27 tu28 tu29 (vL vs 0)
def tp6 (vs : List Vr) : Rs := tu6 (vL vs 0)
theorem tpw6 : tp6 = tw6 := funext fun vs => by unfold tp6 tw6; rw [tu6_eq, te6]
def th6 (xs : List DV) : Bool × List DV × List (List D) := gOf zr6 zo6 (argsT A6 tp6 xs)
def sg144 : Sig := ⟨[.bor, .bor], .sc [.one (.i .i64 0)], [0, 1, 2, 4, 11], []⟩
def sg138 : Sig := ⟨[.bor, .bor], .sc [.one (.i .i64 0)], [0, 1, 4, 5, 11, 15, 25], []⟩
def sg122 : Sig := ⟨[.bor, .bor], .sc [.one (.i .i64 0)], [0, 1, 2, 4, 11, 17], []⟩
def sg89 : Sig := ⟨[.bor, .bor], .sc [.one (.i .i64 0)], [0, 1, 4, 5, 11, 15, 25], []⟩
def sg53 : Sig := ⟨[.bor, .bor], .sc [.one (.i .i64 0)], [0, 1, 2, 4, 10], []⟩
def sg54 : Sig := ⟨[.bor, .bor], .sc [.one (.i .i64 0)], [0, 1, 4, 10], []⟩
def sg123 : Sig := ⟨[.bor, .bor], .sc [.one (.i .i64 0)], [0, 1, 2, 4, 11], []⟩
def sg90 : Sig := ⟨[.bor, .bor], .sc [.one (.i .i64 0)], [0, 1, 2, 4, 10], []⟩
def sg55 : Sig := ⟨[.bor, .bor], .sc [.one (.i .i64 0)], [0, 1, 4, 5, 11, 15, 25], []⟩
def sg22 : Sig := ⟨[.bor, .bor], .sc [.one (.i .i64 0)], [0, 1, 2, 4, 10, 16, 22], []⟩
def sg26 : Sig := ⟨[.bor, .bor], .sc [.one (.i .i64 0)], [0, 1, 4, 5, 11, 15, 25], []⟩
def sg145 : Sig := ⟨[.bor], .sc [.agg [.s ⟨#[]⟩, .i .i64 0]], [0, 1, 2, 3], []⟩
def sg140 : Sig := ⟨[.bor], .fresh [[some (129, 2)]], [0, 2, 3, 4, 11], []⟩
def sg128 : Sig := ⟨[.bor], .fresh [[none, none, none, none, none, none, some (129, 2), none, none]], [0, 1, 2, 3], []⟩
def sg96 : Sig := ⟨[.bor], .fresh [[some (64, 9)]], [0, 2, 3, 4, 11], []⟩
def sg60 : Sig := ⟨[.bor], .fresh [[none, some (64, 9)]], [0, 1, 2, 3], []⟩
def sg97 : Sig := ⟨[.bor], .sc [.agg [.i .i64 0, .i .i64 0, .i .i64 0, .i .i64 0, .i .i64 0]], [0, 1, 2, 3], []⟩
def sg61 : Sig := ⟨[.bor], .fresh [[some (90, 5)]], [0, 2, 3, 4, 11], []⟩
def sg129 : Sig := ⟨[.bor], .sc [.agg [.i .i64 0, .s ⟨#[]⟩]], [0, 1, 2, 3], []⟩
def sg98 : Sig := ⟨[.bor], .sc [.agg [.i .i64 0, .i .i64 0, .i .i64 0, .i .i64 0, .s ⟨#[]⟩]], [0, 1, 2, 3], []⟩
def sg62 : Sig := ⟨[.bor], .fresh [[some (81, 5)]], [0, 2, 3, 4, 11], []⟩
def sg24 : Sig := ⟨[.bor], .fresh [[none, some (64, 9), none, some (90, 5), some (81, 5)]], [0, 1, 2, 3], []⟩
def sg28 : Sig := ⟨[.bor], .fresh [[some (28, 5)]], [0, 2, 3, 4, 11], []⟩
def sg57 : Sig := ⟨[.bor, .bor, .bor], .sc [.one (.b false)], [0, 1, 2, 6], []⟩
def sg139 : Sig := ⟨[.bor], .sc [.one (.b false)], [0, 2], []⟩
def sg124 : Sig := ⟨[.bor], .sc [.one (.b false)], [0, 2, 3, 7, 11, 24], []⟩
def sg125 : Sig := ⟨[.bor], .sc [.one (.b false)], [0, 2, 3, 15, 19, 26], []⟩
def sg126 : Sig := ⟨[.bor, .bor], .sc [.one (.i .i64 0)], [0, 1, 2, 4, 5, 10, 20], []⟩
def sg91 : Sig := ⟨[.bor, .bor], .sc [.one (.b false)], [0, 1, 2, 3, 4, 5, 6, 7, 23, 39, 40, 49, 62, 84, 89, 128], [(16, [(0, 0, []), (1, 0, []), (2, 0, []), (3, 0, []), (4, 0, []), (5, 0, []), (6, 0, []), (7, 0, []), (8, 0, []), (9, 0, []), (10, 0, []), (11, 0, []), (12, 0, []), (13, 0, []), (14, 0, []), (15, 0, []), (16, 0, []), (17, 0, []), (18, 0, []), (19, 0, []), (20, 0, []), (21, 0, []), (22, 0, []), (23, 0, []), (24, 0, []), (25, 0, []), (26, 0, []), (27, 0, []), (28, 0, []), (29, 0, []), (30, 0, []), (31, 0, [])])]⟩
def sg92 : Sig := ⟨[.bor, .bor], .fresh [[some (4, 1)]], [0, 1, 2, 4, 5, 6, 7, 8, 9, 10, 11, 24, 33, 40, 47, 56, 72], [(17, [(0, 0, []), (1, 0, []), (2, 0, []), (3, 0, []), (4, 0, []), (5, 0, []), (6, 0, []), (7, 0, []), (8, 0, []), (9, 0, []), (10, 0, []), (11, 0, []), (12, 0, [])])]⟩
def sg93 : Sig := ⟨[.bor, .bor], .sc [.one (.i .i64 0)], [0, 1, 2, 4, 5, 6, 7, 12, 23, 37], []⟩
def sg94 : Sig := ⟨[.bor], .sc [.one (.i .i64 0)], [0, 1, 2, 3, 4, 9], []⟩
def sg127 : Sig := ⟨[.bor, .bor], .sc [.one (.i .i64 0), .one (.i .i64 0)], [0, 1, 2, 4, 5, 6, 7, 8, 9, 16, 22], []⟩
def sg95 : Sig := ⟨[.bor], .sc [.one (.b false)], [0, 1, 2, 3, 4, 5, 6, 11, 31, 58], []⟩
def sg56 : Sig := ⟨[.bor], .sc [.one (.b false)], [0, 1, 2, 3, 4, 5, 6, 33, 38, 74, 81, 108], [(7, [(0, 0, []), (1, 0, []), (2, 0, []), (3, 0, []), (4, 0, []), (5, 0, []), (6, 0, []), (7, 0, []), (8, 0, []), (9, 0, []), (10, 0, []), (11, 0, []), (12, 0, []), (13, 0, []), (14, 0, []), (15, 0, []), (16, 0, []), (17, 0, []), (18, 0, []), (19, 0, []), (20, 0, []), (21, 0, []), (22, 0, []), (23, 0, []), (24, 0, []), (25, 0, []), (26, 0, []), (27, 0, []), (28, 0, [])]), (13, [(0, 0, []), (1, 0, []), (2, 0, []), (3, 0, []), (4, 0, []), (5, 0, []), (6, 0, []), (7, 0, []), (8, 0, []), (9, 0, []), (10, 0, []), (11, 0, []), (12, 0, []), (13, 0, []), (14, 0, []), (15, 0, []), (16, 0, []), (17, 0, []), (18, 0, []), (19, 0, []), (20, 0, []), (21, 0, []), (22, 0, []), (23, 0, []), (24, 0, [])])]⟩
def sg58 : Sig := ⟨[.bor], .sc [.one (.b false)], [0, 2, 3, 4, 7, 11, 60], [(7, [(0, 0, []), (1, 0, []), (2, 0, []), (3, 0, []), (4, 0, []), (5, 0, []), (6, 0, []), (7, 0, []), (8, 0, []), (9, 0, []), (10, 0, []), (11, 0, []), (12, 0, []), (13, 0, []), (14, 0, []), (15, 0, []), (16, 0, []), (17, 0, []), (18, 0, []), (19, 0, []), (20, 0, []), (21, 0, []), (22, 0, []), (23, 0, []), (24, 0, []), (25, 0, []), (26, 0, []), (27, 0, []), (28, 0, []), (29, 0, []), (30, 0, []), (31, 0, []), (32, 0, []), (33, 0, []), (34, 0, []), (35, 0, []), (36, 0, []), (37, 0, []), (38, 0, []), (39, 0, []), (40, 0, []), (41, 0, []), (42, 0, [])])]⟩
def sg59 : Sig := ⟨[.bor], .sc [.one (.b false)], [0, 1, 2], []⟩
def sg23 : Sig := ⟨[.bor], .sc [.one (.b false)], [0, 1, 2, 3, 4, 26, 31, 76], [(7, [(0, 0, []), (1, 0, []), (2, 0, []), (3, 0, []), (4, 0, []), (5, 0, []), (6, 0, []), (7, 0, []), (8, 0, []), (9, 0, []), (10, 0, []), (11, 0, []), (12, 0, []), (13, 0, []), (14, 0, []), (15, 0, []), (16, 0, []), (17, 0, []), (18, 0, []), (19, 0, []), (20, 0, []), (21, 0, []), (22, 0, []), (23, 0, []), (24, 0, []), (25, 0, []), (26, 0, []), (27, 0, []), (28, 0, []), (29, 0, []), (30, 0, []), (31, 0, []), (32, 0, []), (33, 0, []), (34, 0, []), (35, 0, []), (36, 0, []), (37, 0, [])])]⟩
def sg27 : Sig := ⟨[.bor], .sc [.one (.b false)], [0, 2, 3, 6, 10, 18], []⟩
def sg63 : Sig := ⟨[.bor, .bor, .bor], .sc [.one (.b false)], [0, 1, 2, 6], []⟩
def sg64 : Sig := ⟨[.bor], .sc [.one (.b false)], [0, 1, 2], []⟩
def sg65 : Sig := ⟨[.bor], .sc [.one (.b false)], [0, 2, 3, 4, 5, 6, 7, 8, 54], [(4, [(0, 0, []), (1, 0, []), (2, 0, []), (3, 0, []), (4, 0, []), (5, 0, []), (6, 0, []), (7, 0, []), (8, 0, []), (9, 0, []), (10, 0, []), (11, 0, []), (12, 0, []), (13, 0, []), (14, 0, []), (15, 0, []), (16, 0, []), (17, 0, []), (18, 0, []), (19, 0, []), (20, 0, []), (21, 0, []), (22, 0, []), (23, 0, []), (24, 0, []), (25, 0, []), (26, 0, []), (27, 0, []), (28, 0, []), (29, 0, []), (30, 0, []), (31, 0, []), (32, 0, []), (33, 0, []), (34, 0, []), (35, 0, []), (36, 0, []), (37, 0, []), (38, 0, []), (39, 0, []), (40, 0, []), (41, 0, []), (42, 0, [])])]⟩
def sg141 : Sig := ⟨[.bor], .sc [.one (.b false)], [0, 2], []⟩
def sg130 : Sig := ⟨[.bor], .sc [.one (.b false)], [0, 2, 3, 5, 6, 7, 19], []⟩
def sg142 : Sig := ⟨[.bor], .sc [.one (.b false)], [0, 2, 3, 5, 6, 7, 13], []⟩
def sg132 : Sig := ⟨[.rptr 2, .bor], .ep [.i .i64 0, .i .i64 0, .i .i64 0, .i .i64 0, .i .i64 0, .s ⟨#[]⟩, .l [], .i .i64 0, .i .i64 0], [0, 1, 4, 5, 10, 11, 12, 23], []⟩
def sg131 : Sig := ⟨[.rptr 2, .bor], .sc [.one (.b false)], [0, 1, 3, 4, 5, 6, 8, 9, 10, 11, 46], [(4, [(0, 0, []), (1, 0, []), (2, 0, []), (3, 0, []), (4, 0, []), (5, 0, []), (6, 0, []), (7, 0, []), (8, 0, []), (9, 0, []), (10, 0, []), (11, 0, []), (12, 0, []), (13, 0, []), (14, 0, []), (15, 0, []), (16, 0, []), (17, 0, []), (18, 0, []), (19, 0, []), (20, 0, []), (21, 0, []), (22, 0, []), (23, 0, []), (24, 0, []), (25, 0, []), (26, 0, []), (27, 0, []), (28, 0, []), (29, 0, []), (30, 0, []), (31, 0, [])])]⟩
def sg99 : Sig := ⟨[.rptr 2, .bor], .sc [.one (.b false)], [0, 1, 3, 4, 20, 39, 41, 42, 48, 58], []⟩
def sg133 : Sig := ⟨[.bor, .bor], .sc [.one (.i .i64 0)], [0, 1, 4, 5, 7, 8, 9, 16], []⟩
def sg101 : Sig := ⟨[.bor, .bor], .sc [.one (.b false)], [0, 1, 4], []⟩
def sg100 : Sig := ⟨[.rptr 2, .bor], .fresh [[some (3, 1)]], [0, 1, 4, 5, 6, 7, 8, 10, 17, 27, 31, 32, 33, 34, 41], [(1000013, [(2880, 0, []), (3200, 0, [])])]⟩
def sg102 : Sig := ⟨[.rptr 2, .bor], .sc [.one (.i .i64 0)], [0, 1, 4, 5, 7, 9, 13, 14, 15, 16, 20, 21, 22, 23, 29], []⟩
def sg103 : Sig := ⟨[.rptr 2], .sc [.one (.i .i64 0)], [0, 2, 3, 5, 9, 10, 11, 12], []⟩
def sg135 : Sig := ⟨[.rptr 2, .bor], .sc [.one (.i .i64 0), .one (.i .i64 0)], [0, 1, 4, 5, 6, 7, 9, 10, 14, 15, 16, 17, 24], []⟩
def sg105 : Sig := ⟨[.rptr 2, .bor], .sc [.one (.b false)], [0, 1, 3, 4, 5, 6], []⟩
def sg134 : Sig := ⟨[.bor, .fnp 105 2], .sc [.one (.i .i64 0)], [0, 1, 4, 5, 7, 8, 9, 16], []⟩
def sg104 : Sig := ⟨[.bor, .fnp 105 2], .sc [.one (.b false)], [0, 1, 4], []⟩
def sg66 : Sig := ⟨[.bor], .sc [.one (.b false)], [0, 1, 2, 3, 4, 5, 7, 34, 36, 37, 38, 39, 70, 75, 76, 77, 78, 96], [(6, [(0, 0, []), (1, 0, []), (2, 0, []), (3, 0, []), (4, 0, []), (5, 0, []), (6, 0, []), (7, 0, []), (8, 0, []), (9, 0, []), (10, 0, []), (11, 0, []), (12, 0, []), (13, 0, []), (14, 0, []), (15, 0, []), (16, 0, []), (17, 0, []), (18, 0, []), (19, 0, []), (20, 0, []), (21, 0, []), (22, 0, []), (23, 0, []), (24, 0, []), (25, 0, []), (26, 0, []), (27, 0, [])])]⟩
def sg25 : Sig := ⟨[.bor], .sc [.one (.b false)], [0, 1, 2, 3, 4, 6, 7, 8, 9, 50], [(4, [(0, 0, []), (1, 0, []), (2, 0, []), (3, 0, []), (4, 0, []), (5, 0, []), (6, 0, []), (7, 0, []), (8, 0, []), (9, 0, []), (10, 0, []), (11, 0, []), (12, 0, []), (13, 0, []), (14, 0, []), (15, 0, []), (16, 0, []), (17, 0, []), (18, 0, []), (19, 0, []), (20, 0, []), (21, 0, []), (22, 0, []), (23, 0, []), (24, 0, []), (25, 0, []), (26, 0, []), (27, 0, []), (28, 0, []), (29, 0, []), (30, 0, []), (31, 0, []), (32, 0, []), (33, 0, []), (34, 0, []), (35, 0, []), (36, 0, []), (37, 0, [])])]⟩
def sg29 : Sig := ⟨[.bor], .sc [.one (.b false)], [0, 2, 4, 5, 6, 7, 8, 13], []⟩
def sg143 : Sig := ⟨[.bor, .bor], .sc [.one (.b false)], [0, 1, 2, 3, 4, 9, 14], []⟩
def sg137 : Sig := ⟨[.bor, .bor], .sc [.one (.b false)], [0, 1, 4, 5, 10, 14, 26], [(6, [(0, 0, []), (1, 0, []), (2, 0, []), (3, 0, []), (4, 0, []), (5, 0, []), (6, 0, []), (7, 0, []), (8, 0, []), (9, 0, [])])]⟩
def sg120 : Sig := ⟨[.bor, .bor], .sc [.one (.b false)], [0, 1, 2, 3, 4, 9, 14, 19, 24, 29, 34, 40, 45, 50], []⟩
def sg83 : Sig := ⟨[.bor, .bor], .sc [.one (.b false)], [0, 1, 4, 5, 10, 14, 26], [(6, [(0, 0, []), (1, 0, []), (2, 0, []), (3, 0, []), (4, 0, []), (5, 0, []), (6, 0, []), (7, 0, []), (8, 0, []), (9, 0, [])])]⟩
def sg42 : Sig := ⟨[.bor, .bor], .sc [.one (.b false)], [0, 1, 2, 3, 4, 9, 15], []⟩
def sg84 : Sig := ⟨[.bor, .bor], .sc [.one (.b false)], [0, 1, 2, 3, 4, 9, 14, 19, 24, 29], []⟩
def sg43 : Sig := ⟨[.bor, .bor], .sc [.one (.b false)], [0, 1, 4, 5, 10, 14, 26], [(6, [(0, 0, []), (1, 0, []), (2, 0, []), (3, 0, []), (4, 0, []), (5, 0, []), (6, 0, []), (7, 0, []), (8, 0, []), (9, 0, [])])]⟩
def sg121 : Sig := ⟨[.bor, .bor], .sc [.one (.b false)], [0, 1, 2, 3, 4, 9, 14], []⟩
def sg85 : Sig := ⟨[.bor, .bor], .sc [.one (.b false)], [0, 1, 2, 3, 4, 9, 14, 19, 25], []⟩
def sg44 : Sig := ⟨[.bor, .bor], .sc [.one (.b false)], [0, 1, 4, 5, 10, 14, 26], [(6, [(0, 0, []), (1, 0, []), (2, 0, []), (3, 0, []), (4, 0, []), (5, 0, []), (6, 0, []), (7, 0, []), (8, 0, []), (9, 0, [])])]⟩
def sg14 : Sig := ⟨[.bor, .bor], .sc [.one (.b false)], [0, 1, 2, 3, 4, 10, 15, 21, 27], []⟩
def sg19 : Sig := ⟨[.bor, .bor], .sc [.one (.b false)], [0, 1, 4, 5, 10, 14, 26], [(6, [(0, 0, []), (1, 0, []), (2, 0, []), (3, 0, []), (4, 0, []), (5, 0, []), (6, 0, []), (7, 0, []), (8, 0, []), (9, 0, [])])]⟩
def sg6 : Sig := ⟨[.bor], .sc [.one (.b false)], [0, 2, 3, 4, 5, 6, 11, 21, 26], []⟩
def sig : Nat → Sig := lkF ⟨[], .fresh [], [], []⟩ [(144, sg144), (138, sg138), (122, sg122), (89, sg89), (53, sg53), (54, sg54), (123, sg123), (90, sg90), (55, sg55), (22, sg22), (26, sg26), (145, sg145), (140, sg140), (128, sg128), (96, sg96), (60, sg60), (97, sg97), (61, sg61), (129, sg129), (98, sg98), (62, sg62), (24, sg24), (28, sg28), (57, sg57), (139, sg139), (124, sg124), (125, sg125), (126, sg126), (91, sg91), (92, sg92), (93, sg93), (94, sg94), (127, sg127), (95, sg95), (56, sg56), (58, sg58), (59, sg59), (23, sg23), (27, sg27), (63, sg63), (64, sg64), (65, sg65), (141, sg141), (130, sg130), (142, sg142), (132, sg132), (131, sg131), (99, sg99), (133, sg133), (101, sg101), (100, sg100), (102, sg102), (103, sg103), (135, sg135), (105, sg105), (134, sg134), (104, sg104), (66, sg66), (25, sg25), (29, sg29), (143, sg143), (137, sg137), (120, sg120), (83, sg83), (42, sg42), (84, sg84), (43, sg43), (121, sg121), (85, sg85), (44, sg44), (14, sg14), (19, sg19), (6, sg6)]
def dep : Nat → Nat := lkF 0 [(144, 1), (138, 2), (122, 3), (89, 4), (53, 5), (54, 1), (123, 1), (90, 2), (55, 3), (22, 6), (26, 7), (145, 1), (140, 2), (128, 3), (96, 4), (60, 5), (97, 1), (61, 2), (129, 1), (98, 2), (62, 3), (24, 6), (28, 7), (57, 1), (139, 1), (124, 2), (125, 2), (126, 1), (91, 3), (92, 2), (93, 1), (94, 1), (127, 3), (95, 4), (56, 5), (58, 2), (59, 2), (23, 6), (27, 7), (63, 1), (64, 2), (65, 2), (141, 1), (130, 2), (142, 2), (132, 1), (131, 3), (99, 4), (133, 1), (101, 2), (100, 3), (102, 1), (103, 1), (135, 4), (105, 5), (134, 6), (104, 7), (66, 8), (25, 9), (29, 10), (143, 1), (137, 2), (120, 3), (83, 4), (42, 5), (84, 1), (43, 2), (121, 1), (85, 2), (44, 3), (14, 6), (19, 7), (6, 11)]
def gT : List (Nat × (List DV → Bool × List DV × List (List D))) := [(144, th144), (138, th138), (122, th122), (89, th89), (53, th53), (54, th54), (123, th123), (90, th90), (55, th55), (22, th22), (26, th26), (145, th145), (140, th140), (128, th128), (96, th96), (60, th60), (97, th97), (61, th61), (129, th129), (98, th98), (62, th62), (24, th24), (28, th28), (57, th57), (139, th139), (124, th124), (125, th125), (126, th126), (91, th91), (92, th92), (93, th93), (94, th94), (127, th127), (95, th95), (56, th56), (58, th58), (59, th59), (23, th23), (27, th27), (63, th63), (64, th64), (65, th65), (141, th141), (130, th130), (142, th142), (132, th132), (131, th131), (99, th99), (133, th133), (101, th101), (100, th100), (102, th102), (103, th103), (135, th135), (105, th105), (134, th134), (104, th104), (66, th66), (25, th25), (29, th29), (143, th143), (137, th137), (120, th120), (83, th83), (42, th42), (84, th84), (43, th43), (121, th121), (85, th85), (44, th44), (14, th14), (19, th19), (6, th6)]
def G : Nat → List DV → Bool × List DV × List (List D) := lkF (fun _ => (false, [], [])) gT
noncomputable def C144 : Ctx := ⟨Try.prog, sig, Gd G dep (dep 144), (sig 144).keep, (sig 144).ord⟩
noncomputable def c144 : Code := Try.f144.body.getD .skip
def ST144 : List (Nat × (St → Cont (List DV × List (List D)) → Rs)) := []
theorem r144 : ∀ vs, tw144 vs = bodyK C144 (lkS ST144) Try.f144 (sig 144) c144 (fillAs A144 0 vs) := fun vs => by kernel_rfl
theorem ok144 : ∀ xs q, opt (th144 xs) = some q → evalBody Try.prog sig (Gd G dep (dep 144)) KK 144 xs = some q := fun xs q h => body_ok Try.func144 (c := c144) rfl A144 tw144 (sums_of (C := C144) (t := ST144) trivial) r144 (by rw [← tpw144]; exact opt_gOf h)
noncomputable def C138 : Ctx := ⟨Try.prog, sig, Gd G dep (dep 138), (sig 138).keep, (sig 138).ord⟩
noncomputable def c138 : Code := Try.f138.body.getD .skip
def T138o1 : TSt := ⟨[.d (.l), .d (.i .i64), .d (.i .i64), .d (.i .i64), .d (.b), .any, .any], []⟩
def X138o1e1 : TSt := ⟨[.d (.l), .d (.i .i64), .d (.i .i64), .d (.i .i64), .d (.b), .d (.b), .d (.b)], []⟩
def X138o1e2 : TSt := ⟨[.d (.l), .d (.i .i64), .d (.i .i64), .d (.i .i64), .d (.b), .d (.b), .any], []⟩
def L138o1 (m : Nat) (vs : List Vr) (K : Cont (List DV × List (List D))) : Rs := la138o1 tu144 (vL vs 0) (vI vs 2) (vB vs 4) (fun n22 n23 b24 b25 => K .ret (fillS X138o1e1 [.l (vL vs 0), .i (n22), .i ((-1 : Int)), .i (n23), .b (vB vs 4), .b (b24), .b (b25)])) (fun n26 n27 b28 v29 => K (.exit 0) (fillS X138o1e2 [.l (vL vs 0), .i (n26), .i (vI vs 2), .i (n27), .b (vB vs 4), .b (b28), .v (v29)])) m (vI vs 1) (vI vs 3) (vV vs 5) (vV vs 6)
def ST138 : List (Nat × (St → Cont (List DV × List (List D)) → Rs)) := [(1, sumT T138o1 (L138o1 KK))]
noncomputable def b138o1 : Code := match nodeAt c138 1 with | some (.loop a) => a | _ => .skip
theorem q138o1 : ∀ m vs K, L138o1 (m + 1) vs K = denK C138 (lkS ST138) b138o1 2 (fillS T138o1 vs) (loopK T138o1 (L138o1 m) K) := fun m vs K => by kernel_rfl
theorem o138o1 : SumOk C138 KK (sumT T138o1 (L138o1 KK)) (.loop b138o1) := loop_ok T138o1 L138o1 (sums_of (t := ST138) ⟨fun _ _ h => absurd h (by decide), trivial⟩) (fun _ _ => rfl) q138o1
theorem r138 : ∀ vs, tw138 vs = bodyK C138 (lkS ST138) Try.f138 (sig 138) c138 (fillAs A138 0 vs) := fun vs => by kernel_rfl
theorem ok138 : ∀ xs q, opt (th138 xs) = some q → evalBody Try.prog sig (Gd G dep (dep 138)) KK 138 xs = some q := fun xs q h => body_ok Try.func138 (c := c138) rfl A138 tw138 (sums_of (C := C138) (t := ST138) ⟨sum_in (c' := .loop b138o1) (by kernel_rfl) (o138o1), trivial⟩) r138 (by rw [← tpw138]; exact opt_gOf h)
noncomputable def C122 : Ctx := ⟨Try.prog, sig, Gd G dep (dep 122), (sig 122).keep, (sig 122).ord⟩
noncomputable def c122 : Code := Try.f122.body.getD .skip
def ST122 : List (Nat × (St → Cont (List DV × List (List D)) → Rs)) := []
theorem r122 : ∀ vs, tw122 vs = bodyK C122 (lkS ST122) Try.f122 (sig 122) c122 (fillAs A122 0 vs) := fun vs => by kernel_rfl
theorem ok122 : ∀ xs q, opt (th122 xs) = some q → evalBody Try.prog sig (Gd G dep (dep 122)) KK 122 xs = some q := fun xs q h => body_ok Try.func122 (c := c122) rfl A122 tw122 (sums_of (C := C122) (t := ST122) trivial) r122 (by rw [← tpw122]; exact opt_gOf h)
noncomputable def C89 : Ctx := ⟨Try.prog, sig, Gd G dep (dep 89), (sig 89).keep, (sig 89).ord⟩
noncomputable def c89 : Code := Try.f89.body.getD .skip
def T89o1 : TSt := ⟨[.d (.l), .d (.i .i64), .d (.i .i64), .d (.i .i64), .d (.b), .any, .any], []⟩
def X89o1e1 : TSt := ⟨[.d (.l), .d (.i .i64), .d (.i .i64), .d (.i .i64), .d (.b), .d (.b), .d (.b)], []⟩
def X89o1e2 : TSt := ⟨[.d (.l), .d (.i .i64), .d (.i .i64), .d (.i .i64), .d (.b), .d (.b), .any], []⟩
def L89o1 (m : Nat) (vs : List Vr) (K : Cont (List DV × List (List D))) : Rs := la89o1 tu122 (vL vs 0) (vI vs 2) (vB vs 4) (fun n22 n23 b24 b25 => K .ret (fillS X89o1e1 [.l (vL vs 0), .i (n22), .i ((-1 : Int)), .i (n23), .b (vB vs 4), .b (b24), .b (b25)])) (fun n26 n27 b28 v29 => K (.exit 0) (fillS X89o1e2 [.l (vL vs 0), .i (n26), .i (vI vs 2), .i (n27), .b (vB vs 4), .b (b28), .v (v29)])) m (vI vs 1) (vI vs 3) (vV vs 5) (vV vs 6)
def ST89 : List (Nat × (St → Cont (List DV × List (List D)) → Rs)) := [(1, sumT T89o1 (L89o1 KK))]
noncomputable def b89o1 : Code := match nodeAt c89 1 with | some (.loop a) => a | _ => .skip
theorem q89o1 : ∀ m vs K, L89o1 (m + 1) vs K = denK C89 (lkS ST89) b89o1 2 (fillS T89o1 vs) (loopK T89o1 (L89o1 m) K) := fun m vs K => by kernel_rfl
theorem o89o1 : SumOk C89 KK (sumT T89o1 (L89o1 KK)) (.loop b89o1) := loop_ok T89o1 L89o1 (sums_of (t := ST89) ⟨fun _ _ h => absurd h (by decide), trivial⟩) (fun _ _ => rfl) q89o1
theorem r89 : ∀ vs, tw89 vs = bodyK C89 (lkS ST89) Try.f89 (sig 89) c89 (fillAs A89 0 vs) := fun vs => by kernel_rfl
theorem ok89 : ∀ xs q, opt (th89 xs) = some q → evalBody Try.prog sig (Gd G dep (dep 89)) KK 89 xs = some q := fun xs q h => body_ok Try.func89 (c := c89) rfl A89 tw89 (sums_of (C := C89) (t := ST89) ⟨sum_in (c' := .loop b89o1) (by kernel_rfl) (o89o1), trivial⟩) r89 (by rw [← tpw89]; exact opt_gOf h)
noncomputable def C53 : Ctx := ⟨Try.prog, sig, Gd G dep (dep 53), (sig 53).keep, (sig 53).ord⟩
noncomputable def c53 : Code := Try.f53.body.getD .skip
def ST53 : List (Nat × (St → Cont (List DV × List (List D)) → Rs)) := []
theorem r53 : ∀ vs, tw53 vs = bodyK C53 (lkS ST53) Try.f53 (sig 53) c53 (fillAs A53 0 vs) := fun vs => by kernel_rfl
theorem ok53 : ∀ xs q, opt (th53 xs) = some q → evalBody Try.prog sig (Gd G dep (dep 53)) KK 53 xs = some q := fun xs q h => body_ok Try.func53 (c := c53) rfl A53 tw53 (sums_of (C := C53) (t := ST53) trivial) r53 (by rw [← tpw53]; exact opt_gOf h)
noncomputable def C54 : Ctx := ⟨Try.prog, sig, Gd G dep (dep 54), (sig 54).keep, (sig 54).ord⟩
noncomputable def c54 : Code := Try.f54.body.getD .skip
def ST54 : List (Nat × (St → Cont (List DV × List (List D)) → Rs)) := []
theorem r54 : ∀ vs, tw54 vs = bodyK C54 (lkS ST54) Try.f54 (sig 54) c54 (fillAs A54 0 vs) := fun vs => by kernel_rfl
theorem ok54 : ∀ xs q, opt (th54 xs) = some q → evalBody Try.prog sig (Gd G dep (dep 54)) KK 54 xs = some q := fun xs q h => body_ok Try.func54 (c := c54) rfl A54 tw54 (sums_of (C := C54) (t := ST54) trivial) r54 (by rw [← tpw54]; exact opt_gOf h)
noncomputable def C123 : Ctx := ⟨Try.prog, sig, Gd G dep (dep 123), (sig 123).keep, (sig 123).ord⟩
noncomputable def c123 : Code := Try.f123.body.getD .skip
def ST123 : List (Nat × (St → Cont (List DV × List (List D)) → Rs)) := []
theorem r123 : ∀ vs, tw123 vs = bodyK C123 (lkS ST123) Try.f123 (sig 123) c123 (fillAs A123 0 vs) := fun vs => by kernel_rfl
theorem ok123 : ∀ xs q, opt (th123 xs) = some q → evalBody Try.prog sig (Gd G dep (dep 123)) KK 123 xs = some q := fun xs q h => body_ok Try.func123 (c := c123) rfl A123 tw123 (sums_of (C := C123) (t := ST123) trivial) r123 (by rw [← tpw123]; exact opt_gOf h)
noncomputable def C90 : Ctx := ⟨Try.prog, sig, Gd G dep (dep 90), (sig 90).keep, (sig 90).ord⟩
noncomputable def c90 : Code := Try.f90.body.getD .skip
def ST90 : List (Nat × (St → Cont (List DV × List (List D)) → Rs)) := []
theorem r90 : ∀ vs, tw90 vs = bodyK C90 (lkS ST90) Try.f90 (sig 90) c90 (fillAs A90 0 vs) := fun vs => by kernel_rfl
theorem ok90 : ∀ xs q, opt (th90 xs) = some q → evalBody Try.prog sig (Gd G dep (dep 90)) KK 90 xs = some q := fun xs q h => body_ok Try.func90 (c := c90) rfl A90 tw90 (sums_of (C := C90) (t := ST90) trivial) r90 (by rw [← tpw90]; exact opt_gOf h)
noncomputable def C55 : Ctx := ⟨Try.prog, sig, Gd G dep (dep 55), (sig 55).keep, (sig 55).ord⟩
noncomputable def c55 : Code := Try.f55.body.getD .skip
def T55o1 : TSt := ⟨[.d (.l), .d (.i .i64), .d (.i .i64), .d (.i .i64), .d (.b), .any, .any], []⟩
def X55o1e1 : TSt := ⟨[.d (.l), .d (.i .i64), .d (.i .i64), .d (.i .i64), .d (.b), .d (.b), .d (.b)], []⟩
def X55o1e2 : TSt := ⟨[.d (.l), .d (.i .i64), .d (.i .i64), .d (.i .i64), .d (.b), .d (.b), .any], []⟩
def L55o1 (m : Nat) (vs : List Vr) (K : Cont (List DV × List (List D))) : Rs := la55o1 tu90 (vL vs 0) (vI vs 2) (vB vs 4) (fun n22 n23 b24 b25 => K .ret (fillS X55o1e1 [.l (vL vs 0), .i (n22), .i ((-1 : Int)), .i (n23), .b (vB vs 4), .b (b24), .b (b25)])) (fun n26 n27 b28 v29 => K (.exit 0) (fillS X55o1e2 [.l (vL vs 0), .i (n26), .i (vI vs 2), .i (n27), .b (vB vs 4), .b (b28), .v (v29)])) m (vI vs 1) (vI vs 3) (vV vs 5) (vV vs 6)
def ST55 : List (Nat × (St → Cont (List DV × List (List D)) → Rs)) := [(1, sumT T55o1 (L55o1 KK))]
noncomputable def b55o1 : Code := match nodeAt c55 1 with | some (.loop a) => a | _ => .skip
theorem q55o1 : ∀ m vs K, L55o1 (m + 1) vs K = denK C55 (lkS ST55) b55o1 2 (fillS T55o1 vs) (loopK T55o1 (L55o1 m) K) := fun m vs K => by kernel_rfl
theorem o55o1 : SumOk C55 KK (sumT T55o1 (L55o1 KK)) (.loop b55o1) := loop_ok T55o1 L55o1 (sums_of (t := ST55) ⟨fun _ _ h => absurd h (by decide), trivial⟩) (fun _ _ => rfl) q55o1
theorem r55 : ∀ vs, tw55 vs = bodyK C55 (lkS ST55) Try.f55 (sig 55) c55 (fillAs A55 0 vs) := fun vs => by kernel_rfl
theorem ok55 : ∀ xs q, opt (th55 xs) = some q → evalBody Try.prog sig (Gd G dep (dep 55)) KK 55 xs = some q := fun xs q h => body_ok Try.func55 (c := c55) rfl A55 tw55 (sums_of (C := C55) (t := ST55) ⟨sum_in (c' := .loop b55o1) (by kernel_rfl) (o55o1), trivial⟩) r55 (by rw [← tpw55]; exact opt_gOf h)
noncomputable def C22 : Ctx := ⟨Try.prog, sig, Gd G dep (dep 22), (sig 22).keep, (sig 22).ord⟩
noncomputable def c22 : Code := Try.f22.body.getD .skip
def ST22 : List (Nat × (St → Cont (List DV × List (List D)) → Rs)) := []
theorem r22 : ∀ vs, tw22 vs = bodyK C22 (lkS ST22) Try.f22 (sig 22) c22 (fillAs A22 0 vs) := fun vs => by kernel_rfl
theorem ok22 : ∀ xs q, opt (th22 xs) = some q → evalBody Try.prog sig (Gd G dep (dep 22)) KK 22 xs = some q := fun xs q h => body_ok Try.func22 (c := c22) rfl A22 tw22 (sums_of (C := C22) (t := ST22) trivial) r22 (by rw [← tpw22]; exact opt_gOf h)
noncomputable def C26 : Ctx := ⟨Try.prog, sig, Gd G dep (dep 26), (sig 26).keep, (sig 26).ord⟩
noncomputable def c26 : Code := Try.f26.body.getD .skip
def T26o1 : TSt := ⟨[.d (.l), .d (.i .i64), .d (.i .i64), .d (.i .i64), .d (.b), .any, .any], []⟩
def X26o1e1 : TSt := ⟨[.d (.l), .d (.i .i64), .d (.i .i64), .d (.i .i64), .d (.b), .d (.b), .d (.b)], []⟩
def X26o1e2 : TSt := ⟨[.d (.l), .d (.i .i64), .d (.i .i64), .d (.i .i64), .d (.b), .d (.b), .any], []⟩
def L26o1 (m : Nat) (vs : List Vr) (K : Cont (List DV × List (List D))) : Rs := la26o1 tu22 (vL vs 0) (vI vs 2) (vB vs 4) (fun n22 n23 b24 b25 => K .ret (fillS X26o1e1 [.l (vL vs 0), .i (n22), .i ((-1 : Int)), .i (n23), .b (vB vs 4), .b (b24), .b (b25)])) (fun n26 n27 b28 v29 => K (.exit 0) (fillS X26o1e2 [.l (vL vs 0), .i (n26), .i (vI vs 2), .i (n27), .b (vB vs 4), .b (b28), .v (v29)])) m (vI vs 1) (vI vs 3) (vV vs 5) (vV vs 6)
def ST26 : List (Nat × (St → Cont (List DV × List (List D)) → Rs)) := [(1, sumT T26o1 (L26o1 KK))]
noncomputable def b26o1 : Code := match nodeAt c26 1 with | some (.loop a) => a | _ => .skip
theorem q26o1 : ∀ m vs K, L26o1 (m + 1) vs K = denK C26 (lkS ST26) b26o1 2 (fillS T26o1 vs) (loopK T26o1 (L26o1 m) K) := fun m vs K => by kernel_rfl
theorem o26o1 : SumOk C26 KK (sumT T26o1 (L26o1 KK)) (.loop b26o1) := loop_ok T26o1 L26o1 (sums_of (t := ST26) ⟨fun _ _ h => absurd h (by decide), trivial⟩) (fun _ _ => rfl) q26o1
theorem r26 : ∀ vs, tw26 vs = bodyK C26 (lkS ST26) Try.f26 (sig 26) c26 (fillAs A26 0 vs) := fun vs => by kernel_rfl
theorem ok26 : ∀ xs q, opt (th26 xs) = some q → evalBody Try.prog sig (Gd G dep (dep 26)) KK 26 xs = some q := fun xs q h => body_ok Try.func26 (c := c26) rfl A26 tw26 (sums_of (C := C26) (t := ST26) ⟨sum_in (c' := .loop b26o1) (by kernel_rfl) (o26o1), trivial⟩) r26 (by rw [← tpw26]; exact opt_gOf h)
noncomputable def C145 : Ctx := ⟨Try.prog, sig, Gd G dep (dep 145), (sig 145).keep, (sig 145).ord⟩
noncomputable def c145 : Code := Try.f145.body.getD .skip
def ST145 : List (Nat × (St → Cont (List DV × List (List D)) → Rs)) := []
theorem r145 : ∀ vs, tw145 vs = bodyK C145 (lkS ST145) Try.f145 (sig 145) c145 (fillAs A145 0 vs) := fun vs => by kernel_rfl
theorem ok145 : ∀ xs q, opt (th145 xs) = some q → evalBody Try.prog sig (Gd G dep (dep 145)) KK 145 xs = some q := fun xs q h => body_ok Try.func145 (c := c145) rfl A145 tw145 (sums_of (C := C145) (t := ST145) trivial) r145 (by rw [← tpw145]; exact opt_gOf h)
noncomputable def C140 : Ctx := ⟨Try.prog, sig, Gd G dep (dep 140), (sig 140).keep, (sig 140).ord⟩
noncomputable def c140 : Code := Try.f140.body.getD .skip
def T140o0 : TSt := ⟨[.d (.l), .nils, .own 448, .d (.i .i64), .any], [(448, .row 129 2)]⟩
def X140o0e1 : TSt := ⟨[.d (.l), .nils, .own 448, .d (.i .i64), .d (.b)], [(448, .row 129 2)]⟩
def L140o0 (m : Nat) (vs : List Vr) (K : Cont (List DV × List (List D))) : Rs := la140o0 tu145 (vL vs 0) (fun n13 b14 l15 => K (.exit 0) (fillS X140o0e1 [.l (vL vs 0), .i (n13), .b (b14), .l (l15)])) m (vI vs 1) (vV vs 2) (vL vs 3)
def ST140 : List (Nat × (St → Cont (List DV × List (List D)) → Rs)) := [(0, sumT T140o0 (L140o0 KK))]
noncomputable def b140o0 : Code := match nodeAt c140 0 with | some (.loop a) => a | _ => .skip
theorem q140o0 : ∀ m vs K, L140o0 (m + 1) vs K = denK C140 (lkS ST140) b140o0 1 (fillS T140o0 vs) (loopK T140o0 (L140o0 m) K) := fun m vs K => by kernel_rfl
theorem o140o0 : SumOk C140 KK (sumT T140o0 (L140o0 KK)) (.loop b140o0) := loop_ok T140o0 L140o0 (sums_of (t := ST140) ⟨fun _ _ h => absurd h (by decide), trivial⟩) (fun _ _ => rfl) q140o0
theorem r140 : ∀ vs, tw140 vs = bodyK C140 (lkS ST140) Try.f140 (sig 140) c140 (fillAs A140 0 vs) := fun vs => by kernel_rfl
theorem ok140 : ∀ xs q, opt (th140 xs) = some q → evalBody Try.prog sig (Gd G dep (dep 140)) KK 140 xs = some q := fun xs q h => body_ok Try.func140 (c := c140) rfl A140 tw140 (sums_of (C := C140) (t := ST140) ⟨sum_in (c' := .loop b140o0) (by kernel_rfl) (o140o0), trivial⟩) r140 (by rw [← tpw140]; exact opt_gOf h)
noncomputable def C128 : Ctx := ⟨Try.prog, sig, Gd G dep (dep 128), (sig 128).keep, (sig 128).ord⟩
noncomputable def c128 : Code := Try.f128.body.getD .skip
def ST128 : List (Nat × (St → Cont (List DV × List (List D)) → Rs)) := []
theorem r128 : ∀ vs, tw128 vs = bodyK C128 (lkS ST128) Try.f128 (sig 128) c128 (fillAs A128 0 vs) := fun vs => by kernel_rfl
theorem ok128 : ∀ xs q, opt (th128 xs) = some q → evalBody Try.prog sig (Gd G dep (dep 128)) KK 128 xs = some q := fun xs q h => body_ok Try.func128 (c := c128) rfl A128 tw128 (sums_of (C := C128) (t := ST128) trivial) r128 (by rw [← tpw128]; exact opt_gOf h)
noncomputable def C96 : Ctx := ⟨Try.prog, sig, Gd G dep (dep 96), (sig 96).keep, (sig 96).ord⟩
noncomputable def c96 : Code := Try.f96.body.getD .skip
def T96o0 : TSt := ⟨[.d (.l), .nils, .own 448, .d (.i .i64), .any], [(448, .row 64 9)]⟩
def X96o0e1 : TSt := ⟨[.d (.l), .nils, .own 448, .d (.i .i64), .d (.b)], [(448, .row 64 9)]⟩
def L96o0 (m : Nat) (vs : List Vr) (K : Cont (List DV × List (List D))) : Rs := la96o0 tu128 (vL vs 0) (fun n13 b14 l15 => K (.exit 0) (fillS X96o0e1 [.l (vL vs 0), .i (n13), .b (b14), .l (l15)])) m (vI vs 1) (vV vs 2) (vL vs 3)
def ST96 : List (Nat × (St → Cont (List DV × List (List D)) → Rs)) := [(0, sumT T96o0 (L96o0 KK))]
noncomputable def b96o0 : Code := match nodeAt c96 0 with | some (.loop a) => a | _ => .skip
theorem q96o0 : ∀ m vs K, L96o0 (m + 1) vs K = denK C96 (lkS ST96) b96o0 1 (fillS T96o0 vs) (loopK T96o0 (L96o0 m) K) := fun m vs K => by kernel_rfl
theorem o96o0 : SumOk C96 KK (sumT T96o0 (L96o0 KK)) (.loop b96o0) := loop_ok T96o0 L96o0 (sums_of (t := ST96) ⟨fun _ _ h => absurd h (by decide), trivial⟩) (fun _ _ => rfl) q96o0
theorem r96 : ∀ vs, tw96 vs = bodyK C96 (lkS ST96) Try.f96 (sig 96) c96 (fillAs A96 0 vs) := fun vs => by kernel_rfl
theorem ok96 : ∀ xs q, opt (th96 xs) = some q → evalBody Try.prog sig (Gd G dep (dep 96)) KK 96 xs = some q := fun xs q h => body_ok Try.func96 (c := c96) rfl A96 tw96 (sums_of (C := C96) (t := ST96) ⟨sum_in (c' := .loop b96o0) (by kernel_rfl) (o96o0), trivial⟩) r96 (by rw [← tpw96]; exact opt_gOf h)
noncomputable def C60 : Ctx := ⟨Try.prog, sig, Gd G dep (dep 60), (sig 60).keep, (sig 60).ord⟩
noncomputable def c60 : Code := Try.f60.body.getD .skip
def ST60 : List (Nat × (St → Cont (List DV × List (List D)) → Rs)) := []
theorem r60 : ∀ vs, tw60 vs = bodyK C60 (lkS ST60) Try.f60 (sig 60) c60 (fillAs A60 0 vs) := fun vs => by kernel_rfl
theorem ok60 : ∀ xs q, opt (th60 xs) = some q → evalBody Try.prog sig (Gd G dep (dep 60)) KK 60 xs = some q := fun xs q h => body_ok Try.func60 (c := c60) rfl A60 tw60 (sums_of (C := C60) (t := ST60) trivial) r60 (by rw [← tpw60]; exact opt_gOf h)
noncomputable def C97 : Ctx := ⟨Try.prog, sig, Gd G dep (dep 97), (sig 97).keep, (sig 97).ord⟩
noncomputable def c97 : Code := Try.f97.body.getD .skip
def ST97 : List (Nat × (St → Cont (List DV × List (List D)) → Rs)) := []
theorem r97 : ∀ vs, tw97 vs = bodyK C97 (lkS ST97) Try.f97 (sig 97) c97 (fillAs A97 0 vs) := fun vs => by kernel_rfl
theorem ok97 : ∀ xs q, opt (th97 xs) = some q → evalBody Try.prog sig (Gd G dep (dep 97)) KK 97 xs = some q := fun xs q h => body_ok Try.func97 (c := c97) rfl A97 tw97 (sums_of (C := C97) (t := ST97) trivial) r97 (by rw [← tpw97]; exact opt_gOf h)
noncomputable def C61 : Ctx := ⟨Try.prog, sig, Gd G dep (dep 61), (sig 61).keep, (sig 61).ord⟩
noncomputable def c61 : Code := Try.f61.body.getD .skip
def T61o0 : TSt := ⟨[.d (.l), .nils, .own 448, .d (.i .i64), .any], [(448, .row 90 5)]⟩
def X61o0e1 : TSt := ⟨[.d (.l), .nils, .own 448, .d (.i .i64), .d (.b)], [(448, .row 90 5)]⟩
def L61o0 (m : Nat) (vs : List Vr) (K : Cont (List DV × List (List D))) : Rs := la61o0 tu97 (vL vs 0) (fun n13 b14 l15 => K (.exit 0) (fillS X61o0e1 [.l (vL vs 0), .i (n13), .b (b14), .l (l15)])) m (vI vs 1) (vV vs 2) (vL vs 3)
def ST61 : List (Nat × (St → Cont (List DV × List (List D)) → Rs)) := [(0, sumT T61o0 (L61o0 KK))]
noncomputable def b61o0 : Code := match nodeAt c61 0 with | some (.loop a) => a | _ => .skip
theorem q61o0 : ∀ m vs K, L61o0 (m + 1) vs K = denK C61 (lkS ST61) b61o0 1 (fillS T61o0 vs) (loopK T61o0 (L61o0 m) K) := fun m vs K => by kernel_rfl
theorem o61o0 : SumOk C61 KK (sumT T61o0 (L61o0 KK)) (.loop b61o0) := loop_ok T61o0 L61o0 (sums_of (t := ST61) ⟨fun _ _ h => absurd h (by decide), trivial⟩) (fun _ _ => rfl) q61o0
theorem r61 : ∀ vs, tw61 vs = bodyK C61 (lkS ST61) Try.f61 (sig 61) c61 (fillAs A61 0 vs) := fun vs => by kernel_rfl
theorem ok61 : ∀ xs q, opt (th61 xs) = some q → evalBody Try.prog sig (Gd G dep (dep 61)) KK 61 xs = some q := fun xs q h => body_ok Try.func61 (c := c61) rfl A61 tw61 (sums_of (C := C61) (t := ST61) ⟨sum_in (c' := .loop b61o0) (by kernel_rfl) (o61o0), trivial⟩) r61 (by rw [← tpw61]; exact opt_gOf h)
noncomputable def C129 : Ctx := ⟨Try.prog, sig, Gd G dep (dep 129), (sig 129).keep, (sig 129).ord⟩
noncomputable def c129 : Code := Try.f129.body.getD .skip
def ST129 : List (Nat × (St → Cont (List DV × List (List D)) → Rs)) := []
theorem r129 : ∀ vs, tw129 vs = bodyK C129 (lkS ST129) Try.f129 (sig 129) c129 (fillAs A129 0 vs) := fun vs => by kernel_rfl
theorem ok129 : ∀ xs q, opt (th129 xs) = some q → evalBody Try.prog sig (Gd G dep (dep 129)) KK 129 xs = some q := fun xs q h => body_ok Try.func129 (c := c129) rfl A129 tw129 (sums_of (C := C129) (t := ST129) trivial) r129 (by rw [← tpw129]; exact opt_gOf h)
noncomputable def C98 : Ctx := ⟨Try.prog, sig, Gd G dep (dep 98), (sig 98).keep, (sig 98).ord⟩
noncomputable def c98 : Code := Try.f98.body.getD .skip
def ST98 : List (Nat × (St → Cont (List DV × List (List D)) → Rs)) := []
theorem r98 : ∀ vs, tw98 vs = bodyK C98 (lkS ST98) Try.f98 (sig 98) c98 (fillAs A98 0 vs) := fun vs => by kernel_rfl
theorem ok98 : ∀ xs q, opt (th98 xs) = some q → evalBody Try.prog sig (Gd G dep (dep 98)) KK 98 xs = some q := fun xs q h => body_ok Try.func98 (c := c98) rfl A98 tw98 (sums_of (C := C98) (t := ST98) trivial) r98 (by rw [← tpw98]; exact opt_gOf h)
noncomputable def C62 : Ctx := ⟨Try.prog, sig, Gd G dep (dep 62), (sig 62).keep, (sig 62).ord⟩
noncomputable def c62 : Code := Try.f62.body.getD .skip
def T62o0 : TSt := ⟨[.d (.l), .nils, .own 448, .d (.i .i64), .any], [(448, .row 81 5)]⟩
def X62o0e1 : TSt := ⟨[.d (.l), .nils, .own 448, .d (.i .i64), .d (.b)], [(448, .row 81 5)]⟩
def L62o0 (m : Nat) (vs : List Vr) (K : Cont (List DV × List (List D))) : Rs := la62o0 tu98 (vL vs 0) (fun n13 b14 l15 => K (.exit 0) (fillS X62o0e1 [.l (vL vs 0), .i (n13), .b (b14), .l (l15)])) m (vI vs 1) (vV vs 2) (vL vs 3)
def ST62 : List (Nat × (St → Cont (List DV × List (List D)) → Rs)) := [(0, sumT T62o0 (L62o0 KK))]
noncomputable def b62o0 : Code := match nodeAt c62 0 with | some (.loop a) => a | _ => .skip
theorem q62o0 : ∀ m vs K, L62o0 (m + 1) vs K = denK C62 (lkS ST62) b62o0 1 (fillS T62o0 vs) (loopK T62o0 (L62o0 m) K) := fun m vs K => by kernel_rfl
theorem o62o0 : SumOk C62 KK (sumT T62o0 (L62o0 KK)) (.loop b62o0) := loop_ok T62o0 L62o0 (sums_of (t := ST62) ⟨fun _ _ h => absurd h (by decide), trivial⟩) (fun _ _ => rfl) q62o0
theorem r62 : ∀ vs, tw62 vs = bodyK C62 (lkS ST62) Try.f62 (sig 62) c62 (fillAs A62 0 vs) := fun vs => by kernel_rfl
theorem ok62 : ∀ xs q, opt (th62 xs) = some q → evalBody Try.prog sig (Gd G dep (dep 62)) KK 62 xs = some q := fun xs q h => body_ok Try.func62 (c := c62) rfl A62 tw62 (sums_of (C := C62) (t := ST62) ⟨sum_in (c' := .loop b62o0) (by kernel_rfl) (o62o0), trivial⟩) r62 (by rw [← tpw62]; exact opt_gOf h)
noncomputable def C24 : Ctx := ⟨Try.prog, sig, Gd G dep (dep 24), (sig 24).keep, (sig 24).ord⟩
noncomputable def c24 : Code := Try.f24.body.getD .skip
def ST24 : List (Nat × (St → Cont (List DV × List (List D)) → Rs)) := []
theorem r24 : ∀ vs, tw24 vs = bodyK C24 (lkS ST24) Try.f24 (sig 24) c24 (fillAs A24 0 vs) := fun vs => by kernel_rfl
theorem ok24 : ∀ xs q, opt (th24 xs) = some q → evalBody Try.prog sig (Gd G dep (dep 24)) KK 24 xs = some q := fun xs q h => body_ok Try.func24 (c := c24) rfl A24 tw24 (sums_of (C := C24) (t := ST24) trivial) r24 (by rw [← tpw24]; exact opt_gOf h)
noncomputable def C28 : Ctx := ⟨Try.prog, sig, Gd G dep (dep 28), (sig 28).keep, (sig 28).ord⟩
noncomputable def c28 : Code := Try.f28.body.getD .skip
def T28o0 : TSt := ⟨[.d (.l), .nils, .own 448, .d (.i .i64), .any], [(448, .row 28 5)]⟩
def X28o0e1 : TSt := ⟨[.d (.l), .nils, .own 448, .d (.i .i64), .d (.b)], [(448, .row 28 5)]⟩
def L28o0 (m : Nat) (vs : List Vr) (K : Cont (List DV × List (List D))) : Rs := la28o0 tu24 (vL vs 0) (fun n13 b14 l15 => K (.exit 0) (fillS X28o0e1 [.l (vL vs 0), .i (n13), .b (b14), .l (l15)])) m (vI vs 1) (vV vs 2) (vL vs 3)
def ST28 : List (Nat × (St → Cont (List DV × List (List D)) → Rs)) := [(0, sumT T28o0 (L28o0 KK))]
noncomputable def b28o0 : Code := match nodeAt c28 0 with | some (.loop a) => a | _ => .skip
theorem q28o0 : ∀ m vs K, L28o0 (m + 1) vs K = denK C28 (lkS ST28) b28o0 1 (fillS T28o0 vs) (loopK T28o0 (L28o0 m) K) := fun m vs K => by kernel_rfl
theorem o28o0 : SumOk C28 KK (sumT T28o0 (L28o0 KK)) (.loop b28o0) := loop_ok T28o0 L28o0 (sums_of (t := ST28) ⟨fun _ _ h => absurd h (by decide), trivial⟩) (fun _ _ => rfl) q28o0
theorem r28 : ∀ vs, tw28 vs = bodyK C28 (lkS ST28) Try.f28 (sig 28) c28 (fillAs A28 0 vs) := fun vs => by kernel_rfl
theorem ok28 : ∀ xs q, opt (th28 xs) = some q → evalBody Try.prog sig (Gd G dep (dep 28)) KK 28 xs = some q := fun xs q h => body_ok Try.func28 (c := c28) rfl A28 tw28 (sums_of (C := C28) (t := ST28) ⟨sum_in (c' := .loop b28o0) (by kernel_rfl) (o28o0), trivial⟩) r28 (by rw [← tpw28]; exact opt_gOf h)
noncomputable def C57 : Ctx := ⟨Try.prog, sig, Gd G dep (dep 57), (sig 57).keep, (sig 57).ord⟩
noncomputable def c57 : Code := Try.f57.body.getD .skip
def ST57 : List (Nat × (St → Cont (List DV × List (List D)) → Rs)) := []
theorem r57 : ∀ vs, tw57 vs = bodyK C57 (lkS ST57) Try.f57 (sig 57) c57 (fillAs A57 0 vs) := fun vs => by kernel_rfl
theorem ok57 : ∀ xs q, opt (th57 xs) = some q → evalBody Try.prog sig (Gd G dep (dep 57)) KK 57 xs = some q := fun xs q h => body_ok Try.func57 (c := c57) rfl A57 tw57 (sums_of (C := C57) (t := ST57) trivial) r57 (by rw [← tpw57]; exact opt_gOf h)
noncomputable def C139 : Ctx := ⟨Try.prog, sig, Gd G dep (dep 139), (sig 139).keep, (sig 139).ord⟩
noncomputable def c139 : Code := Try.f139.body.getD .skip
def ST139 : List (Nat × (St → Cont (List DV × List (List D)) → Rs)) := []
theorem r139 : ∀ vs, tw139 vs = bodyK C139 (lkS ST139) Try.f139 (sig 139) c139 (fillAs A139 0 vs) := fun vs => by kernel_rfl
theorem ok139 : ∀ xs q, opt (th139 xs) = some q → evalBody Try.prog sig (Gd G dep (dep 139)) KK 139 xs = some q := fun xs q h => body_ok Try.func139 (c := c139) rfl A139 tw139 (sums_of (C := C139) (t := ST139) trivial) r139 (by rw [← tpw139]; exact opt_gOf h)
noncomputable def C124 : Ctx := ⟨Try.prog, sig, Gd G dep (dep 124), (sig 124).keep, (sig 124).ord⟩
noncomputable def c124 : Code := Try.f124.body.getD .skip
def T124o1 : TSt := ⟨[.d (.s), .d (.b), .d (.i .i64), .d (.b), .any, .any], []⟩
def X124o1e1 : TSt := ⟨[.d (.s), .d (.b), .d (.i .i64), .d (.b), .d (.b), .d (.b)], []⟩
def X124o1e2 : TSt := ⟨[.d (.s), .d (.b), .d (.i .i64), .d (.b), .d (.b), .any], []⟩
def L124o1 (m : Nat) (vs : List Vr) (K : Cont (List DV × List (List D))) : Rs := la124o1 tu57 tu139 (vS vs 0) (vB vs 1) (vB vs 3) (fun n18 b19 b20 => K .ret (fillS X124o1e1 [.s (vS vs 0), .b (false), .i (n18), .b (vB vs 3), .b (b19), .b (b20)])) (fun n21 b22 v23 => K (.exit 0) (fillS X124o1e2 [.s (vS vs 0), .b (vB vs 1), .i (n21), .b (vB vs 3), .b (b22), .v (v23)])) m (vI vs 2) (vV vs 4) (vV vs 5)
def ST124 : List (Nat × (St → Cont (List DV × List (List D)) → Rs)) := [(1, sumT T124o1 (L124o1 KK))]
noncomputable def b124o1 : Code := match nodeAt c124 1 with | some (.loop a) => a | _ => .skip
theorem q124o1 : ∀ m vs K, L124o1 (m + 1) vs K = denK C124 (lkS ST124) b124o1 2 (fillS T124o1 vs) (loopK T124o1 (L124o1 m) K) := fun m vs K => by kernel_rfl
theorem o124o1 : SumOk C124 KK (sumT T124o1 (L124o1 KK)) (.loop b124o1) := loop_ok T124o1 L124o1 (sums_of (t := ST124) ⟨fun _ _ h => absurd h (by decide), trivial⟩) (fun _ _ => rfl) q124o1
theorem r124 : ∀ vs, tw124 vs = bodyK C124 (lkS ST124) Try.f124 (sig 124) c124 (fillAs A124 0 vs) := fun vs => by kernel_rfl
theorem ok124 : ∀ xs q, opt (th124 xs) = some q → evalBody Try.prog sig (Gd G dep (dep 124)) KK 124 xs = some q := fun xs q h => body_ok Try.func124 (c := c124) rfl A124 tw124 (sums_of (C := C124) (t := ST124) ⟨sum_in (c' := .loop b124o1) (by kernel_rfl) (o124o1), trivial⟩) r124 (by rw [← tpw124]; exact opt_gOf h)
noncomputable def C125 : Ctx := ⟨Try.prog, sig, Gd G dep (dep 125), (sig 125).keep, (sig 125).ord⟩
noncomputable def c125 : Code := Try.f125.body.getD .skip
def T125o1 : TSt := ⟨[.d (.s), .d (.b), .d (.i .i64), .d (.b), .any, .any], []⟩
def X125o1e1 : TSt := ⟨[.d (.s), .d (.b), .d (.i .i64), .d (.b), .d (.b), .d (.b)], []⟩
def X125o1e2 : TSt := ⟨[.d (.s), .d (.b), .d (.i .i64), .d (.b), .d (.b), .any], []⟩
def L125o1 (m : Nat) (vs : List Vr) (K : Cont (List DV × List (List D))) : Rs := la125o1 tu57 tu139 (vS vs 0) (vB vs 1) (vB vs 3) (fun n18 b19 b20 => K .ret (fillS X125o1e1 [.s (vS vs 0), .b (false), .i (n18), .b (vB vs 3), .b (b19), .b (b20)])) (fun n21 b22 v23 => K (.exit 0) (fillS X125o1e2 [.s (vS vs 0), .b (vB vs 1), .i (n21), .b (vB vs 3), .b (b22), .v (v23)])) m (vI vs 2) (vV vs 4) (vV vs 5)
def ST125 : List (Nat × (St → Cont (List DV × List (List D)) → Rs)) := [(1, sumT T125o1 (L125o1 KK))]
noncomputable def b125o1 : Code := match nodeAt c125 1 with | some (.loop a) => a | _ => .skip
theorem q125o1 : ∀ m vs K, L125o1 (m + 1) vs K = denK C125 (lkS ST125) b125o1 2 (fillS T125o1 vs) (loopK T125o1 (L125o1 m) K) := fun m vs K => by kernel_rfl
theorem o125o1 : SumOk C125 KK (sumT T125o1 (L125o1 KK)) (.loop b125o1) := loop_ok T125o1 L125o1 (sums_of (t := ST125) ⟨fun _ _ h => absurd h (by decide), trivial⟩) (fun _ _ => rfl) q125o1
theorem r125 : ∀ vs, tw125 vs = bodyK C125 (lkS ST125) Try.f125 (sig 125) c125 (fillAs A125 0 vs) := fun vs => by kernel_rfl
theorem ok125 : ∀ xs q, opt (th125 xs) = some q → evalBody Try.prog sig (Gd G dep (dep 125)) KK 125 xs = some q := fun xs q h => body_ok Try.func125 (c := c125) rfl A125 tw125 (sums_of (C := C125) (t := ST125) ⟨sum_in (c' := .loop b125o1) (by kernel_rfl) (o125o1), trivial⟩) r125 (by rw [← tpw125]; exact opt_gOf h)
noncomputable def C126 : Ctx := ⟨Try.prog, sig, Gd G dep (dep 126), (sig 126).keep, (sig 126).ord⟩
noncomputable def c126 : Code := Try.f126.body.getD .skip
def T126o0 : TSt := ⟨[.agg [.d (.i .i64), .d (.l)], .d (.i .i64), .ptr 128 0, .d (.i .i64), .d (.i .i64), .any, .any], [(128, .box [.d (.i .i64), .d (.l)])]⟩
def X126o0e1 : TSt := ⟨[.agg [.d (.i .i64), .d (.l)], .d (.i .i64), .ptr 128 0, .d (.i .i64), .d (.i .i64), .d (.b), .d (.b)], [(128, .box [.d (.i .i64), .d (.l)])]⟩
def X126o0e2 : TSt := ⟨[.agg [.d (.i .i64), .d (.l)], .d (.i .i64), .ptr 128 0, .d (.i .i64), .d (.i .i64), .d (.b), .any], [(128, .box [.d (.i .i64), .d (.l)])]⟩
def L126o0 (m : Nat) (vs : List Vr) (K : Cont (List DV × List (List D))) : Rs := l126o0 (vI vs 0) (vL vs 1) (vI vs 2) (vI vs 3) (vI vs 7) (vL vs 8) (fun n29 b30 b31 => K .ret (fillS X126o0e1 [.i (vI vs 0), .l (vL vs 1), .i (vI vs 2), .i (n29), .i (n29), .b (b30), .b (b31), .i (vI vs 7), .l (vL vs 8)])) (fun n32 b33 v34 => K (.exit 0) (fillS X126o0e2 [.i (vI vs 0), .l (vL vs 1), .i (vI vs 2), .i (vI vs 3), .i (n32), .b (b33), .v (v34), .i (vI vs 7), .l (vL vs 8)])) m (vI vs 4) (vV vs 5) (vV vs 6)
def ST126 : List (Nat × (St → Cont (List DV × List (List D)) → Rs)) := [(0, sumT T126o0 (L126o0 KK))]
noncomputable def b126o0 : Code := match nodeAt c126 0 with | some (.loop a) => a | _ => .skip
theorem q126o0 : ∀ m vs K, L126o0 (m + 1) vs K = denK C126 (lkS ST126) b126o0 1 (fillS T126o0 vs) (loopK T126o0 (L126o0 m) K) := fun m vs K => by kernel_rfl
theorem o126o0 : SumOk C126 KK (sumT T126o0 (L126o0 KK)) (.loop b126o0) := loop_ok T126o0 L126o0 (sums_of (t := ST126) ⟨fun _ _ h => absurd h (by decide), trivial⟩) (fun _ _ => rfl) q126o0
theorem r126 : ∀ vs, tw126 vs = bodyK C126 (lkS ST126) Try.f126 (sig 126) c126 (fillAs A126 0 vs) := fun vs => by kernel_rfl
theorem ok126 : ∀ xs q, opt (th126 xs) = some q → evalBody Try.prog sig (Gd G dep (dep 126)) KK 126 xs = some q := fun xs q h => body_ok Try.func126 (c := c126) rfl A126 tw126 (sums_of (C := C126) (t := ST126) ⟨sum_in (c' := .loop b126o0) (by kernel_rfl) (o126o0), trivial⟩) r126 (by rw [← tpw126]; exact opt_gOf h)
noncomputable def C91 : Ctx := ⟨Try.prog, sig, Gd G dep (dep 91), (sig 91).keep, (sig 91).ord⟩
noncomputable def c91 : Code := Try.f91.body.getD .skip
def T91o5 : TSt := ⟨[.agg [.d (.i .i64), .d (.l)], .agg [.d (.i .i64), .d (.i .i64), .d (.i .i64), .d (.i .i64), .d (.i .i64), .d (.s), .d (.l), .d (.i .i64), .d (.i .i64)], .ptr 128 0, .ptr 192 0, .d (.b), .d (.b), .d (.i .i64), .undef, .d (.b), .d (.i .i64), .d (.b), .d (.b), .d (.b), .d (.b), .any, .any], [(128, .box [.d (.i .i64), .d (.l)]), (192, .box [.d (.i .i64), .d (.i .i64), .d (.i .i64), .d (.i .i64), .d (.i .i64), .d (.s), .d (.l), .d (.i .i64), .d (.i .i64)])]⟩
def X91o5e1 : TSt := ⟨[.agg [.d (.i .i64), .d (.l)], .agg [.d (.i .i64), .d (.i .i64), .d (.i .i64), .d (.i .i64), .d (.i .i64), .d (.s), .d (.l), .d (.i .i64), .d (.i .i64)], .ptr 128 0, .ptr 192 0, .d (.b), .d (.b), .d (.i .i64), .ptr 448 0, .d (.b), .d (.i .i64), .d (.b), .d (.b), .d (.b), .d (.b), .d (.b), .d (.b)], [(128, .box [.d (.i .i64), .d (.l)]), (192, .box [.d (.i .i64), .d (.i .i64), .d (.i .i64), .d (.i .i64), .d (.i .i64), .d (.s), .d (.l), .d (.i .i64), .d (.i .i64)]), (448, .box [.d (.s), .d (.i .i64)])]⟩
def X91o5e2 : TSt := ⟨[.agg [.d (.i .i64), .d (.l)], .agg [.d (.i .i64), .d (.i .i64), .d (.i .i64), .d (.i .i64), .d (.i .i64), .d (.s), .d (.l), .d (.i .i64), .d (.i .i64)], .ptr 128 0, .ptr 192 0, .d (.b), .d (.b), .d (.i .i64), .undef, .d (.b), .d (.i .i64), .d (.b), .d (.b), .d (.b), .d (.b), .d (.b), .any], [(128, .box [.d (.i .i64), .d (.l)]), (192, .box [.d (.i .i64), .d (.i .i64), .d (.i .i64), .d (.i .i64), .d (.i .i64), .d (.s), .d (.l), .d (.i .i64), .d (.i .i64)])]⟩
def L91o5 (m : Nat) (vs : List Vr) (K : Cont (List DV × List (List D))) : Rs := la91o5 tu57 tu124 tu125 tu126 (vI vs 0) (vL vs 1) (vI vs 2) (vI vs 3) (vI vs 4) (vI vs 5) (vI vs 6) (vS vs 7) (vL vs 8) (vI vs 9) (vI vs 10) (vB vs 11) (vB vs 12) (vB vs 14) (vI vs 15) (vB vs 16) (vB vs 17) (vB vs 18) (vB vs 19) (vI vs 22) (vL vs 23) (vI vs 24) (vI vs 25) (vI vs 26) (vI vs 27) (vI vs 28) (vS vs 29) (vL vs 30) (vI vs 31) (vI vs 32) (fun n109 b110 b111 s112 n113 => K .ret (fillS X91o5e1 [.i (vI vs 0), .l (vL vs 1), .i (vI vs 2), .i (vI vs 3), .i (vI vs 4), .i (vI vs 5), .i (vI vs 6), .s (vS vs 7), .l (vL vs 8), .i (vI vs 9), .i (vI vs 10), .b (false), .b (vB vs 12), .i (n109), .b (vB vs 14), .i (vI vs 15), .b (vB vs 16), .b (vB vs 17), .b (vB vs 18), .b (vB vs 19), .b (b110), .b (b111), .i (vI vs 22), .l (vL vs 23), .i (vI vs 24), .i (vI vs 25), .i (vI vs 26), .i (vI vs 27), .i (vI vs 28), .s (vS vs 29), .l (vL vs 30), .i (vI vs 31), .i (vI vs 32), .s (s112), .i (n113)])) (fun n114 b115 v116 => K (.exit 1) (fillS X91o5e2 [.i (vI vs 0), .l (vL vs 1), .i (vI vs 2), .i (vI vs 3), .i (vI vs 4), .i (vI vs 5), .i (vI vs 6), .s (vS vs 7), .l (vL vs 8), .i (vI vs 9), .i (vI vs 10), .b (vB vs 11), .b (vB vs 12), .i (n114), .b (vB vs 14), .i (vI vs 15), .b (vB vs 16), .b (vB vs 17), .b (vB vs 18), .b (vB vs 19), .b (b115), .v (v116), .i (vI vs 22), .l (vL vs 23), .i (vI vs 24), .i (vI vs 25), .i (vI vs 26), .i (vI vs 27), .i (vI vs 28), .s (vS vs 29), .l (vL vs 30), .i (vI vs 31), .i (vI vs 32)])) m (vI vs 13) (vV vs 20) (vV vs 21)
def ST91 : List (Nat × (St → Cont (List DV × List (List D)) → Rs)) := [(5, sumT T91o5 (L91o5 KK))]
noncomputable def b91o5 : Code := match nodeAt c91 5 with | some (.loop a) => a | _ => .skip
theorem q91o5 : ∀ m vs K, L91o5 (m + 1) vs K = denK C91 (lkS ST91) b91o5 6 (fillS T91o5 vs) (loopK T91o5 (L91o5 m) K) := fun m vs K => by kernel_rfl
theorem o91o5 : SumOk C91 KK (sumT T91o5 (L91o5 KK)) (.loop b91o5) := loop_ok T91o5 L91o5 (sums_of (t := ST91) ⟨fun _ _ h => absurd h (by decide), trivial⟩) (fun _ _ => rfl) q91o5
theorem r91 : ∀ vs, tw91 vs = bodyK C91 (lkS ST91) Try.f91 (sig 91) c91 (fillAs A91 0 vs) := fun vs => by kernel_rfl
theorem ok91 : ∀ xs q, opt (th91 xs) = some q → evalBody Try.prog sig (Gd G dep (dep 91)) KK 91 xs = some q := fun xs q h => body_ok Try.func91 (c := c91) rfl A91 tw91 (sums_of (C := C91) (t := ST91) ⟨sum_in (c' := .loop b91o5) (by kernel_rfl) (o91o5), trivial⟩) r91 (by rw [← tpw91]; exact opt_gOf h)
noncomputable def C92 : Ctx := ⟨Try.prog, sig, Gd G dep (dep 92), (sig 92).keep, (sig 92).ord⟩
noncomputable def c92 : Code := Try.f92.body.getD .skip
def T92o6 : TSt := ⟨[.agg [.d (.i .i64), .d (.l)], .d (.i .i64), .ptr 128 0, .nils, .own 960, .own 1216, .d (.i .i64), .d (.i .i64), .d (.i .i64), .d (.i .i64), .any, .d (.b), .d (.b), .d (.b), .d (.b), .any, .any], [(128, .box [.d (.i .i64), .d (.l)]), (960, .row 4 1), (1216, .row 4 1)]⟩
def X92o6e1 : TSt := ⟨[.agg [.d (.i .i64), .d (.l)], .d (.i .i64), .ptr 128 0, .nils, .own 960, .own 1216, .d (.i .i64), .d (.i .i64), .d (.i .i64), .d (.i .i64), .any, .d (.b), .d (.b), .d (.b), .d (.b), .d (.b), .any], [(128, .box [.d (.i .i64), .d (.l)]), (960, .row 4 1), (1216, .row 4 1)]⟩
def L92o6 (m : Nat) (vs : List Vr) (K : Cont (List DV × List (List D))) : Rs := la92o6 tu126 (vI vs 0) (vL vs 1) (vI vs 2) (vI vs 3) (vI vs 4) (vI vs 5) (vB vs 8) (vB vs 9) (vB vs 10) (vB vs 11) (vI vs 14) (vL vs 15) (fun n417 v418 b419 v420 l421 l422 => K (.exit 4) (fillS X92o6e1 [.i (vI vs 0), .l (vL vs 1), .i (vI vs 2), .i (vI vs 3), .i (vI vs 4), .i (vI vs 5), .i (n417), .v (v418), .b (vB vs 8), .b (vB vs 9), .b (vB vs 10), .b (vB vs 11), .b (b419), .v (v420), .i (vI vs 14), .l (vL vs 15), .l (l421), .l (l422)])) m (vI vs 6) (vV vs 7) (vV vs 12) (vV vs 13) (vL vs 16) (vL vs 17)
def T92o3 : TSt := ⟨[.agg [.d (.i .i64), .d (.l)], .d (.i .i64), .ptr 128 0, .nils, .own 960, .own 1216, .d (.i .i64), .d (.i .i64), .d (.i .i64), .any, .any, .d (.b), .d (.b), .any, .any, .any, .any], [(128, .box [.d (.i .i64), .d (.l)]), (960, .row 4 1), (1216, .row 4 1)]⟩
def X92o3e1 : TSt := ⟨[.agg [.d (.i .i64), .d (.l)], .d (.i .i64), .ptr 128 0, .nils, .own 960, .own 1216, .d (.i .i64), .d (.i .i64), .d (.i .i64), .any, .any, .d (.b), .d (.b), .d (.b), .any, .any, .any], [(128, .box [.d (.i .i64), .d (.l)]), (960, .row 4 1), (1216, .row 4 1)]⟩
def L92o3 (m : Nat) (vs : List Vr) (K : Cont (List DV × List (List D))) : Rs := la92o3 tu126 (vI vs 0) (vL vs 1) (vI vs 2) (vI vs 3) (vI vs 4) (vB vs 8) (vB vs 9) (vI vs 14) (vL vs 15) (fun n465 v466 v467 b468 v469 v470 v471 l472 l473 => K (.exit 2) (fillS X92o3e1 [.i (vI vs 0), .l (vL vs 1), .i (vI vs 2), .i (vI vs 3), .i (vI vs 4), .i (n465), .v (v466), .v (v467), .b (vB vs 8), .b (vB vs 9), .b (b468), .v (v469), .v (v470), .v (v471), .i (vI vs 14), .l (vL vs 15), .l (l472), .l (l473)])) m (vI vs 5) (vV vs 6) (vV vs 7) (vV vs 10) (vV vs 11) (vV vs 12) (vV vs 13) (vL vs 16) (vL vs 17)
def T92o1 : TSt := ⟨[.agg [.d (.i .i64), .d (.l)], .d (.i .i64), .ptr 128 0, .nils, .own 960, .own 1216, .d (.i .i64), .d (.i .i64), .any, .any, .any, .d (.b), .any, .any, .any, .any, .any], [(128, .box [.d (.i .i64), .d (.l)]), (960, .row 4 1), (1216, .row 4 1)]⟩
def X92o1e1 : TSt := ⟨[.agg [.d (.i .i64), .d (.l)], .d (.i .i64), .ptr 128 0, .nils, .own 960, .own 1216, .d (.i .i64), .d (.i .i64), .any, .any, .any, .d (.b), .d (.b), .any, .any, .any, .any], [(128, .box [.d (.i .i64), .d (.l)]), (960, .row 4 1), (1216, .row 4 1)]⟩
def L92o1 (m : Nat) (vs : List Vr) (K : Cont (List DV × List (List D))) : Rs := la92o1 tu126 (vI vs 0) (vL vs 1) (vI vs 2) (vI vs 3) (vB vs 8) (vI vs 14) (vL vs 15) (fun n501 v502 v503 v504 b505 v506 v507 v508 v509 l510 l511 => K (.exit 0) (fillS X92o1e1 [.i (vI vs 0), .l (vL vs 1), .i (vI vs 2), .i (vI vs 3), .i (n501), .v (v502), .v (v503), .v (v504), .b (vB vs 8), .b (b505), .v (v506), .v (v507), .v (v508), .v (v509), .i (vI vs 14), .l (vL vs 15), .l (l510), .l (l511)])) m (vI vs 4) (vV vs 5) (vV vs 6) (vV vs 7) (vV vs 9) (vV vs 10) (vV vs 11) (vV vs 12) (vV vs 13) (vL vs 16) (vL vs 17)
def ST92 : List (Nat × (St → Cont (List DV × List (List D)) → Rs)) := [(6, sumT T92o6 (L92o6 KK)), (3, sumT T92o3 (L92o3 KK)), (1, sumT T92o1 (L92o1 KK))]
noncomputable def b92o6 : Code := match nodeAt c92 6 with | some (.loop a) => a | _ => .skip
noncomputable def b92o3 : Code := match nodeAt c92 3 with | some (.loop a) => a | _ => .skip
noncomputable def b92o1 : Code := match nodeAt c92 1 with | some (.loop a) => a | _ => .skip
theorem q92o6 : ∀ m vs K, L92o6 (m + 1) vs K = denK C92 (lkS ST92) b92o6 7 (fillS T92o6 vs) (loopK T92o6 (L92o6 m) K) := fun m vs K => by kernel_rfl
theorem o92o6 : SumOk C92 KK (sumT T92o6 (L92o6 KK)) (.loop b92o6) := loop_ok T92o6 L92o6 (sums_of (t := ST92) ⟨fun _ _ h => absurd h (by decide), fun _ _ h => absurd h (by decide), fun _ _ h => absurd h (by decide), trivial⟩) (fun _ _ => rfl) q92o6
theorem q92o3 : ∀ m vs K, L92o3 (m + 1) vs K = denK C92 (lkS ST92) b92o3 4 (fillS T92o3 vs) (loopK T92o3 (L92o3 m) K) := fun m vs K => by kernel_rfl
theorem o92o3 : SumOk C92 KK (sumT T92o3 (L92o3 KK)) (.loop b92o3) := loop_ok T92o3 L92o3 (sums_of (t := ST92) ⟨sum_in (c' := .loop b92o6) (by kernel_rfl) (o92o6), fun _ _ h => absurd h (by decide), fun _ _ h => absurd h (by decide), trivial⟩) (fun _ _ => rfl) q92o3
theorem q92o1 : ∀ m vs K, L92o1 (m + 1) vs K = denK C92 (lkS ST92) b92o1 2 (fillS T92o1 vs) (loopK T92o1 (L92o1 m) K) := fun m vs K => by kernel_rfl
theorem o92o1 : SumOk C92 KK (sumT T92o1 (L92o1 KK)) (.loop b92o1) := loop_ok T92o1 L92o1 (sums_of (t := ST92) ⟨sum_in (c' := .loop b92o6) (by kernel_rfl) (o92o6), sum_in (c' := .loop b92o3) (by kernel_rfl) (o92o3), fun _ _ h => absurd h (by decide), trivial⟩) (fun _ _ => rfl) q92o1
theorem r92 : ∀ vs, tw92 vs = bodyK C92 (lkS ST92) Try.f92 (sig 92) c92 (fillAs A92 0 vs) := fun vs => by kernel_rfl
theorem ok92 : ∀ xs q, opt (th92 xs) = some q → evalBody Try.prog sig (Gd G dep (dep 92)) KK 92 xs = some q := fun xs q h => body_ok Try.func92 (c := c92) rfl A92 tw92 (sums_of (C := C92) (t := ST92) ⟨sum_in (c' := .loop b92o6) (by kernel_rfl) (o92o6), sum_in (c' := .loop b92o3) (by kernel_rfl) (o92o3), sum_in (c' := .loop b92o1) (by kernel_rfl) (o92o1), trivial⟩) r92 (by rw [← tpw92]; exact opt_gOf h)
noncomputable def C93 : Ctx := ⟨Try.prog, sig, Gd G dep (dep 93), (sig 93).keep, (sig 93).ord⟩
noncomputable def c93 : Code := Try.f93.body.getD .skip
def T93o2 : TSt := ⟨[.agg [.d (.i .i64), .d (.l)], .d (.i .i64), .ptr 128 0, .d (.i .i64), .d (.i .i64), .d (.i .i64), .d (.i .i64), .d (.b), .any, .any], [(128, .box [.d (.i .i64), .d (.l)])]⟩
def X93o2e1 : TSt := ⟨[.agg [.d (.i .i64), .d (.l)], .d (.i .i64), .ptr 128 0, .d (.i .i64), .d (.i .i64), .d (.i .i64), .d (.i .i64), .d (.b), .d (.b), .any], [(128, .box [.d (.i .i64), .d (.l)])]⟩
def L93o2 (m : Nat) (vs : List Vr) (K : Cont (List DV × List (List D))) : Rs := l93o2 (vI vs 0) (vL vs 1) (vI vs 2) (vI vs 3) (vI vs 5) (vB vs 7) (vI vs 10) (vL vs 11) (fun n106 n107 b108 v109 => K (.exit 2) (fillS X93o2e1 [.i (vI vs 0), .l (vL vs 1), .i (vI vs 2), .i (vI vs 3), .i (n106), .i (vI vs 5), .i (n107), .b (vB vs 7), .b (b108), .v (v109), .i (vI vs 10), .l (vL vs 11)])) m (vI vs 4) (vI vs 6) (vV vs 8) (vV vs 9)
def T93o0 : TSt := ⟨[.agg [.d (.i .i64), .d (.l)], .d (.i .i64), .ptr 128 0, .d (.i .i64), .d (.i .i64), .d (.i .i64), .any, .any, .any, .any], [(128, .box [.d (.i .i64), .d (.l)])]⟩
def X93o0e1 : TSt := ⟨[.agg [.d (.i .i64), .d (.l)], .d (.i .i64), .ptr 128 0, .d (.i .i64), .d (.i .i64), .d (.i .i64), .any, .d (.b), .any, .any], [(128, .box [.d (.i .i64), .d (.l)])]⟩
def L93o0 (m : Nat) (vs : List Vr) (K : Cont (List DV × List (List D))) : Rs := l93o0 (vI vs 0) (vL vs 1) (vI vs 2) (vI vs 3) (vI vs 10) (vL vs 11) (fun n126 n127 v128 b129 v130 v131 => K (.exit 0) (fillS X93o0e1 [.i (vI vs 0), .l (vL vs 1), .i (vI vs 2), .i (vI vs 3), .i (n126), .i (n127), .v (v128), .b (b129), .v (v130), .v (v131), .i (vI vs 10), .l (vL vs 11)])) m (vI vs 4) (vI vs 5) (vV vs 6) (vV vs 7) (vV vs 8) (vV vs 9)
def ST93 : List (Nat × (St → Cont (List DV × List (List D)) → Rs)) := [(2, sumT T93o2 (L93o2 KK)), (0, sumT T93o0 (L93o0 KK))]
noncomputable def b93o2 : Code := match nodeAt c93 2 with | some (.loop a) => a | _ => .skip
noncomputable def b93o0 : Code := match nodeAt c93 0 with | some (.loop a) => a | _ => .skip
theorem q93o2 : ∀ m vs K, L93o2 (m + 1) vs K = denK C93 (lkS ST93) b93o2 3 (fillS T93o2 vs) (loopK T93o2 (L93o2 m) K) := fun m vs K => by kernel_rfl
theorem o93o2 : SumOk C93 KK (sumT T93o2 (L93o2 KK)) (.loop b93o2) := loop_ok T93o2 L93o2 (sums_of (t := ST93) ⟨fun _ _ h => absurd h (by decide), fun _ _ h => absurd h (by decide), trivial⟩) (fun _ _ => rfl) q93o2
theorem q93o0 : ∀ m vs K, L93o0 (m + 1) vs K = denK C93 (lkS ST93) b93o0 1 (fillS T93o0 vs) (loopK T93o0 (L93o0 m) K) := fun m vs K => by kernel_rfl
theorem o93o0 : SumOk C93 KK (sumT T93o0 (L93o0 KK)) (.loop b93o0) := loop_ok T93o0 L93o0 (sums_of (t := ST93) ⟨sum_in (c' := .loop b93o2) (by kernel_rfl) (o93o2), fun _ _ h => absurd h (by decide), trivial⟩) (fun _ _ => rfl) q93o0
theorem r93 : ∀ vs, tw93 vs = bodyK C93 (lkS ST93) Try.f93 (sig 93) c93 (fillAs A93 0 vs) := fun vs => by kernel_rfl
theorem ok93 : ∀ xs q, opt (th93 xs) = some q → evalBody Try.prog sig (Gd G dep (dep 93)) KK 93 xs = some q := fun xs q h => body_ok Try.func93 (c := c93) rfl A93 tw93 (sums_of (C := C93) (t := ST93) ⟨sum_in (c' := .loop b93o2) (by kernel_rfl) (o93o2), sum_in (c' := .loop b93o0) (by kernel_rfl) (o93o0), trivial⟩) r93 (by rw [← tpw93]; exact opt_gOf h)
noncomputable def C94 : Ctx := ⟨Try.prog, sig, Gd G dep (dep 94), (sig 94).keep, (sig 94).ord⟩
noncomputable def c94 : Code := Try.f94.body.getD .skip
def T94o0 : TSt := ⟨[.agg [.d (.i .i64), .d (.l)], .ptr 64 0, .d (.i .i64), .d (.i .i64), .d (.i .i64), .any], [(64, .box [.d (.i .i64), .d (.l)])]⟩
def X94o0e1 : TSt := ⟨[.agg [.d (.i .i64), .d (.l)], .ptr 64 0, .d (.i .i64), .d (.i .i64), .d (.i .i64), .d (.b)], [(64, .box [.d (.i .i64), .d (.l)])]⟩
def L94o0 (m : Nat) (vs : List Vr) (K : Cont (List DV × List (List D))) : Rs := l94o0 (vI vs 0) (vL vs 1) (vI vs 2) (vI vs 6) (vL vs 7) (fun n26 n27 b28 => K (.exit 0) (fillS X94o0e1 [.i (vI vs 0), .l (vL vs 1), .i (vI vs 2), .i (n26), .i (n27), .b (b28), .i (vI vs 6), .l (vL vs 7)])) m (vI vs 3) (vI vs 4) (vV vs 5)
def ST94 : List (Nat × (St → Cont (List DV × List (List D)) → Rs)) := [(0, sumT T94o0 (L94o0 KK))]
noncomputable def b94o0 : Code := match nodeAt c94 0 with | some (.loop a) => a | _ => .skip
theorem q94o0 : ∀ m vs K, L94o0 (m + 1) vs K = denK C94 (lkS ST94) b94o0 1 (fillS T94o0 vs) (loopK T94o0 (L94o0 m) K) := fun m vs K => by kernel_rfl
theorem o94o0 : SumOk C94 KK (sumT T94o0 (L94o0 KK)) (.loop b94o0) := loop_ok T94o0 L94o0 (sums_of (t := ST94) ⟨fun _ _ h => absurd h (by decide), trivial⟩) (fun _ _ => rfl) q94o0
theorem r94 : ∀ vs, tw94 vs = bodyK C94 (lkS ST94) Try.f94 (sig 94) c94 (fillAs A94 0 vs) := fun vs => by kernel_rfl
theorem ok94 : ∀ xs q, opt (th94 xs) = some q → evalBody Try.prog sig (Gd G dep (dep 94)) KK 94 xs = some q := fun xs q h => body_ok Try.func94 (c := c94) rfl A94 tw94 (sums_of (C := C94) (t := ST94) ⟨sum_in (c' := .loop b94o0) (by kernel_rfl) (o94o0), trivial⟩) r94 (by rw [← tpw94]; exact opt_gOf h)
noncomputable def C127 : Ctx := ⟨Try.prog, sig, Gd G dep (dep 127), (sig 127).keep, (sig 127).ord⟩
noncomputable def c127 : Code := Try.f127.body.getD .skip
def T127o0 : TSt := ⟨[.agg [.d (.i .i64), .d (.l)], .d (.i .i64), .ptr 128 0, .d (.i .i64), .d (.i .i64), .own 768, .d (.i .i64), .d (.i .i64), .d (.i .i64), .any, .any], [(128, .box [.d (.i .i64), .d (.l)]), (768, .row 4 1)]⟩
def X127o0e1 : TSt := ⟨[.agg [.d (.i .i64), .d (.l)], .d (.i .i64), .ptr 128 0, .d (.i .i64), .d (.i .i64), .own 768, .d (.i .i64), .d (.i .i64), .d (.i .i64), .d (.b), .any], [(128, .box [.d (.i .i64), .d (.l)]), (768, .row 4 1)]⟩
def L127o0 (m : Nat) (vs : List Vr) (K : Cont (List DV × List (List D))) : Rs := la127o0 tu92 (vI vs 0) (vL vs 1) (vI vs 2) (vI vs 3) (vI vs 4) (vI vs 10) (vL vs 11) (vL vs 12) (fun n45 n46 n47 b48 v49 => K (.exit 0) (fillS X127o0e1 [.i (vI vs 0), .l (vL vs 1), .i (vI vs 2), .i (vI vs 3), .i (vI vs 4), .i (n45), .i (n46), .i (n47), .b (b48), .v (v49), .i (vI vs 10), .l (vL vs 11), .l (vL vs 12)])) m (vI vs 5) (vI vs 6) (vI vs 7) (vV vs 8) (vV vs 9)
def ST127 : List (Nat × (St → Cont (List DV × List (List D)) → Rs)) := [(0, sumT T127o0 (L127o0 KK))]
noncomputable def b127o0 : Code := match nodeAt c127 0 with | some (.loop a) => a | _ => .skip
theorem q127o0 : ∀ m vs K, L127o0 (m + 1) vs K = denK C127 (lkS ST127) b127o0 1 (fillS T127o0 vs) (loopK T127o0 (L127o0 m) K) := fun m vs K => by kernel_rfl
theorem o127o0 : SumOk C127 KK (sumT T127o0 (L127o0 KK)) (.loop b127o0) := loop_ok T127o0 L127o0 (sums_of (t := ST127) ⟨fun _ _ h => absurd h (by decide), trivial⟩) (fun _ _ => rfl) q127o0
theorem r127 : ∀ vs, tw127 vs = bodyK C127 (lkS ST127) Try.f127 (sig 127) c127 (fillAs A127 0 vs) := fun vs => by kernel_rfl
theorem ok127 : ∀ xs q, opt (th127 xs) = some q → evalBody Try.prog sig (Gd G dep (dep 127)) KK 127 xs = some q := fun xs q h => body_ok Try.func127 (c := c127) rfl A127 tw127 (sums_of (C := C127) (t := ST127) ⟨sum_in (c' := .loop b127o0) (by kernel_rfl) (o127o0), trivial⟩) r127 (by rw [← tpw127]; exact opt_gOf h)
noncomputable def C95 : Ctx := ⟨Try.prog, sig, Gd G dep (dep 95), (sig 95).keep, (sig 95).ord⟩
noncomputable def c95 : Code := Try.f95.body.getD .skip
def T95o0 : TSt := ⟨[.agg [.d (.i .i64), .d (.l)], .ptr 64 0, .d (.b), .d (.i .i64), .undef, .any, .any, .any, .any, .any], [(64, .box [.d (.i .i64), .d (.l)])]⟩
def X95o0e1 : TSt := ⟨[.agg [.d (.i .i64), .d (.l)], .ptr 64 0, .d (.b), .d (.i .i64), .ptr 256 0, .d (.i .i64), .d (.i .i64), .d (.b), .d (.b), .d (.b)], [(64, .box [.d (.i .i64), .d (.l)]), (256, .box [.d (.i .i64), .d (.i .i64), .d (.i .i64), .d (.i .i64), .d (.i .i64), .d (.s), .d (.l), .d (.i .i64), .d (.i .i64)])]⟩
def X95o0e2 : TSt := ⟨[.agg [.d (.i .i64), .d (.l)], .ptr 64 0, .d (.b), .d (.i .i64), .undef, .any, .any, .d (.b), .any, .any], [(64, .box [.d (.i .i64), .d (.l)])]⟩
def L95o0 (m : Nat) (vs : List Vr) (K : Cont (List DV × List (List D))) : Rs := la95o0 tu127 (vI vs 0) (vL vs 1) (vB vs 2) (vI vs 9) (vL vs 10) (fun n42 n43 n44 b45 b46 b47 n48 n49 n50 n51 n52 s53 l54 n55 n56 => K .ret (fillS X95o0e1 [.i (vI vs 0), .l (vL vs 1), .b (true), .i (n42), .i (n43), .i (n44), .b (b45), .b (b46), .b (b47), .i (vI vs 9), .l (vL vs 10), .i (n48), .i (n49), .i (n50), .i (n51), .i (n52), .s (s53), .l (l54), .i (n55), .i (n56)])) (fun n57 v58 v59 b60 v61 v62 => K (.exit 0) (fillS X95o0e2 [.i (vI vs 0), .l (vL vs 1), .b (vB vs 2), .i (n57), .v (v58), .v (v59), .b (b60), .v (v61), .v (v62), .i (vI vs 9), .l (vL vs 10)])) m (vI vs 3) (vV vs 4) (vV vs 5) (vV vs 6) (vV vs 7) (vV vs 8)
def ST95 : List (Nat × (St → Cont (List DV × List (List D)) → Rs)) := [(0, sumT T95o0 (L95o0 KK))]
noncomputable def b95o0 : Code := match nodeAt c95 0 with | some (.loop a) => a | _ => .skip
theorem q95o0 : ∀ m vs K, L95o0 (m + 1) vs K = denK C95 (lkS ST95) b95o0 1 (fillS T95o0 vs) (loopK T95o0 (L95o0 m) K) := fun m vs K => by kernel_rfl
theorem o95o0 : SumOk C95 KK (sumT T95o0 (L95o0 KK)) (.loop b95o0) := loop_ok T95o0 L95o0 (sums_of (t := ST95) ⟨fun _ _ h => absurd h (by decide), trivial⟩) (fun _ _ => rfl) q95o0
theorem r95 : ∀ vs, tw95 vs = bodyK C95 (lkS ST95) Try.f95 (sig 95) c95 (fillAs A95 0 vs) := fun vs => by kernel_rfl
theorem ok95 : ∀ xs q, opt (th95 xs) = some q → evalBody Try.prog sig (Gd G dep (dep 95)) KK 95 xs = some q := fun xs q h => body_ok Try.func95 (c := c95) rfl A95 tw95 (sums_of (C := C95) (t := ST95) ⟨sum_in (c' := .loop b95o0) (by kernel_rfl) (o95o0), trivial⟩) r95 (by rw [← tpw95]; exact opt_gOf h)
noncomputable def C56 : Ctx := ⟨Try.prog, sig, Gd G dep (dep 56), (sig 56).keep, (sig 56).ord⟩
noncomputable def c56 : Code := Try.f56.body.getD .skip
def T56o4 : TSt := ⟨[.agg [.d (.i .i64), .d (.l)], .ptr 64 0, .d (.b), .d (.i .i64), .undef, .own 4864, .d (.i .i64), .d (.b), .d (.b), .any, .any, .any], [(64, .box [.d (.i .i64), .d (.l)]), (4864, .row 4 1)]⟩
def X56o4e1 : TSt := ⟨[.agg [.d (.i .i64), .d (.l)], .ptr 64 0, .d (.b), .d (.i .i64), .undef, .own 4864, .d (.i .i64), .d (.b), .d (.b), .any, .d (.b), .d (.b)], [(64, .box [.d (.i .i64), .d (.l)]), (4864, .row 4 1)]⟩
def X56o4e2 : TSt := ⟨[.agg [.d (.i .i64), .d (.l)], .ptr 64 0, .d (.b), .d (.i .i64), .undef, .own 4864, .d (.i .i64), .d (.b), .d (.b), .any, .d (.b), .any], [(64, .box [.d (.i .i64), .d (.l)]), (4864, .row 4 1)]⟩
def L56o4 (m : Nat) (vs : List Vr) (K : Cont (List DV × List (List D))) : Rs := la56o4 tu57 tu91 tu92 tu93 tu94 tu95 (vI vs 0) (vL vs 1) (vB vs 2) (vI vs 3) (vB vs 5) (vB vs 6) (vI vs 10) (vL vs 11) (vL vs 12) (fun n95 v96 b97 b98 => K .ret (fillS X56o4e1 [.i (vI vs 0), .l (vL vs 1), .b (false), .i (vI vs 3), .i (n95), .b (vB vs 5), .b (vB vs 6), .v (v96), .b (b97), .b (b98), .i (vI vs 10), .l (vL vs 11), .l (vL vs 12)])) (fun n99 v100 b101 v102 => K (.exit 2) (fillS X56o4e2 [.i (vI vs 0), .l (vL vs 1), .b (vB vs 2), .i (vI vs 3), .i (n99), .b (vB vs 5), .b (vB vs 6), .v (v100), .b (b101), .v (v102), .i (vI vs 10), .l (vL vs 11), .l (vL vs 12)])) m (vI vs 4) (vV vs 7) (vV vs 8) (vV vs 9)
def T56o1 : TSt := ⟨[.agg [.d (.i .i64), .d (.l)], .ptr 64 0, .d (.b), .d (.i .i64), .undef, .undef, .undef, .d (.b), .any, .any, .undef, .undef], [(64, .box [.d (.i .i64), .d (.l)])]⟩
def X56o1e1 : TSt := ⟨[.agg [.d (.i .i64), .d (.l)], .ptr 64 0, .d (.b), .d (.i .i64), .ptr 256 0, .undef, .undef, .d (.b), .d (.b), .d (.b), .undef, .undef], [(64, .box [.d (.i .i64), .d (.l)]), (256, .box [.d (.i .i64), .d (.i .i64), .d (.i .i64), .d (.i .i64), .d (.i .i64), .d (.s), .d (.l), .d (.i .i64), .d (.i .i64)])]⟩
def X56o1e2 : TSt := ⟨[.agg [.d (.i .i64), .d (.l)], .ptr 64 0, .d (.b), .d (.i .i64), .undef, .undef, .undef, .d (.b), .d (.b), .any, .undef, .undef], [(64, .box [.d (.i .i64), .d (.l)])]⟩
def L56o1 (m : Nat) (vs : List Vr) (K : Cont (List DV × List (List D))) : Rs := la56o1 tu57 tu91 tu92 tu93 tu94 tu95 (vI vs 0) (vL vs 1) (vB vs 2) (vB vs 4) (vI vs 7) (vL vs 8) (fun n28 b29 b30 n31 n32 n33 n34 n35 s36 l37 n38 n39 => K .ret (fillS X56o1e1 [.i (vI vs 0), .l (vL vs 1), .b (false), .i (n28), .b (vB vs 4), .b (b29), .b (b30), .i (vI vs 7), .l (vL vs 8), .i (n31), .i (n32), .i (n33), .i (n34), .i (n35), .s (s36), .l (l37), .i (n38), .i (n39)])) (fun n40 b41 v42 => K (.exit 0) (fillS X56o1e2 [.i (vI vs 0), .l (vL vs 1), .b (vB vs 2), .i (n40), .b (vB vs 4), .b (b41), .v (v42), .i (vI vs 7), .l (vL vs 8)])) m (vI vs 3) (vV vs 5) (vV vs 6)
def ST56 : List (Nat × (St → Cont (List DV × List (List D)) → Rs)) := [(4, sumT T56o4 (L56o4 KK)), (1, sumT T56o1 (L56o1 KK))]
noncomputable def b56o4 : Code := match nodeAt c56 4 with | some (.loop a) => a | _ => .skip
noncomputable def b56o1 : Code := match nodeAt c56 1 with | some (.loop a) => a | _ => .skip
theorem q56o4 : ∀ m vs K, L56o4 (m + 1) vs K = denK C56 (lkS ST56) b56o4 5 (fillS T56o4 vs) (loopK T56o4 (L56o4 m) K) := fun m vs K => by kernel_rfl
theorem o56o4 : SumOk C56 KK (sumT T56o4 (L56o4 KK)) (.loop b56o4) := loop_ok T56o4 L56o4 (sums_of (t := ST56) ⟨fun _ _ h => absurd h (by decide), fun _ _ h => absurd h (by decide), trivial⟩) (fun _ _ => rfl) q56o4
theorem q56o1 : ∀ m vs K, L56o1 (m + 1) vs K = denK C56 (lkS ST56) b56o1 2 (fillS T56o1 vs) (loopK T56o1 (L56o1 m) K) := fun m vs K => by kernel_rfl
theorem o56o1 : SumOk C56 KK (sumT T56o1 (L56o1 KK)) (.loop b56o1) := loop_ok T56o1 L56o1 (sums_of (t := ST56) ⟨sum_out (by kernel_rfl), fun _ _ h => absurd h (by decide), trivial⟩) (fun _ _ => rfl) q56o1
theorem r56 : ∀ vs, tw56 vs = bodyK C56 (lkS ST56) Try.f56 (sig 56) c56 (fillAs A56 0 vs) := fun vs => by kernel_rfl
theorem ok56 : ∀ xs q, opt (th56 xs) = some q → evalBody Try.prog sig (Gd G dep (dep 56)) KK 56 xs = some q := fun xs q h => body_ok Try.func56 (c := c56) rfl A56 tw56 (sums_of (C := C56) (t := ST56) ⟨sum_in (c' := .loop b56o4) (by kernel_rfl) (o56o4), sum_in (c' := .loop b56o1) (by kernel_rfl) (o56o1), trivial⟩) r56 (by rw [← tpw56]; exact opt_gOf h)
noncomputable def C58 : Ctx := ⟨Try.prog, sig, Gd G dep (dep 58), (sig 58).keep, (sig 58).ord⟩
noncomputable def c58 : Code := Try.f58.body.getD .skip
def T58o1 : TSt := ⟨[.d (.l), .d (.b), .d (.i .i64), .undef, .d (.b), .any, .any], []⟩
def X58o1e1 : TSt := ⟨[.d (.l), .d (.b), .d (.i .i64), .ptr 256 0, .d (.b), .d (.b), .d (.b)], [(256, .box [.d (.i .i64), .d (.i .i64), .d (.i .i64), .d (.i .i64), .d (.i .i64)])]⟩
def X58o1e2 : TSt := ⟨[.d (.l), .d (.b), .d (.i .i64), .undef, .d (.b), .d (.b), .any], []⟩
def L58o1 (m : Nat) (vs : List Vr) (K : Cont (List DV × List (List D))) : Rs := la58o1 tu57 (vL vs 0) (vB vs 1) (vB vs 3) (fun n18 b19 b20 n21 n22 n23 n24 n25 => K .ret (fillS X58o1e1 [.l (vL vs 0), .b (false), .i (n18), .b (vB vs 3), .b (b19), .b (b20), .i (n21), .i (n22), .i (n23), .i (n24), .i (n25)])) (fun n26 b27 v28 => K (.exit 0) (fillS X58o1e2 [.l (vL vs 0), .b (vB vs 1), .i (n26), .b (vB vs 3), .b (b27), .v (v28)])) m (vI vs 2) (vV vs 4) (vV vs 5)
def ST58 : List (Nat × (St → Cont (List DV × List (List D)) → Rs)) := [(1, sumT T58o1 (L58o1 KK))]
noncomputable def b58o1 : Code := match nodeAt c58 1 with | some (.loop a) => a | _ => .skip
theorem q58o1 : ∀ m vs K, L58o1 (m + 1) vs K = denK C58 (lkS ST58) b58o1 2 (fillS T58o1 vs) (loopK T58o1 (L58o1 m) K) := fun m vs K => by kernel_rfl
theorem o58o1 : SumOk C58 KK (sumT T58o1 (L58o1 KK)) (.loop b58o1) := loop_ok T58o1 L58o1 (sums_of (t := ST58) ⟨fun _ _ h => absurd h (by decide), trivial⟩) (fun _ _ => rfl) q58o1
theorem r58 : ∀ vs, tw58 vs = bodyK C58 (lkS ST58) Try.f58 (sig 58) c58 (fillAs A58 0 vs) := fun vs => by kernel_rfl
theorem ok58 : ∀ xs q, opt (th58 xs) = some q → evalBody Try.prog sig (Gd G dep (dep 58)) KK 58 xs = some q := fun xs q h => body_ok Try.func58 (c := c58) rfl A58 tw58 (sums_of (C := C58) (t := ST58) ⟨sum_in (c' := .loop b58o1) (by kernel_rfl) (o58o1), trivial⟩) r58 (by rw [← tpw58]; exact opt_gOf h)
noncomputable def C59 : Ctx := ⟨Try.prog, sig, Gd G dep (dep 59), (sig 59).keep, (sig 59).ord⟩
noncomputable def c59 : Code := Try.f59.body.getD .skip
def ST59 : List (Nat × (St → Cont (List DV × List (List D)) → Rs)) := []
theorem r59 : ∀ vs, tw59 vs = bodyK C59 (lkS ST59) Try.f59 (sig 59) c59 (fillAs A59 0 vs) := fun vs => by kernel_rfl
theorem ok59 : ∀ xs q, opt (th59 xs) = some q → evalBody Try.prog sig (Gd G dep (dep 59)) KK 59 xs = some q := fun xs q h => body_ok Try.func59 (c := c59) rfl A59 tw59 (sums_of (C := C59) (t := ST59) trivial) r59 (by rw [← tpw59]; exact opt_gOf h)
noncomputable def C23 : Ctx := ⟨Try.prog, sig, Gd G dep (dep 23), (sig 23).keep, (sig 23).ord⟩
noncomputable def c23 : Code := Try.f23.body.getD .skip
def T23o1 : TSt := ⟨[.agg [.d (.i .i64), .d (.l), .d (.i .i64), .d (.l), .d (.l)], .ptr 64 0, .d (.b), .d (.i .i64), .undef, .d (.b), .any, .any], [(64, .box [.d (.i .i64), .d (.l), .d (.i .i64), .d (.l), .d (.l)])]⟩
def X23o1e1 : TSt := ⟨[.agg [.d (.i .i64), .d (.l), .d (.i .i64), .d (.l), .d (.l)], .ptr 64 0, .d (.b), .d (.i .i64), .ptr 256 0, .d (.b), .d (.b), .d (.b)], [(64, .box [.d (.i .i64), .d (.l), .d (.i .i64), .d (.l), .d (.l)]), (256, .box [.d (.i .i64), .d (.i .i64), .d (.i .i64), .d (.i .i64), .d (.s)])]⟩
def X23o1e2 : TSt := ⟨[.agg [.d (.i .i64), .d (.l), .d (.i .i64), .d (.l), .d (.l)], .ptr 64 0, .d (.b), .d (.i .i64), .undef, .d (.b), .d (.b), .any], [(64, .box [.d (.i .i64), .d (.l), .d (.i .i64), .d (.l), .d (.l)])]⟩
def L23o1 (m : Nat) (vs : List Vr) (K : Cont (List DV × List (List D))) : Rs := la23o1 tu56 tu57 tu58 tu59 (vI vs 0) (vL vs 1) (vI vs 2) (vL vs 3) (vL vs 4) (vB vs 5) (vB vs 7) (vI vs 10) (vL vs 11) (vI vs 12) (vL vs 13) (vL vs 14) (fun n49 b50 b51 n52 n53 n54 n55 s56 => K .ret (fillS X23o1e1 [.i (vI vs 0), .l (vL vs 1), .i (vI vs 2), .l (vL vs 3), .l (vL vs 4), .b (false), .i (n49), .b (vB vs 7), .b (b50), .b (b51), .i (vI vs 10), .l (vL vs 11), .i (vI vs 12), .l (vL vs 13), .l (vL vs 14), .i (n52), .i (n53), .i (n54), .i (n55), .s (s56)])) (fun n57 b58 v59 => K (.exit 0) (fillS X23o1e2 [.i (vI vs 0), .l (vL vs 1), .i (vI vs 2), .l (vL vs 3), .l (vL vs 4), .b (vB vs 5), .i (n57), .b (vB vs 7), .b (b58), .v (v59), .i (vI vs 10), .l (vL vs 11), .i (vI vs 12), .l (vL vs 13), .l (vL vs 14)])) m (vI vs 6) (vV vs 8) (vV vs 9)
def ST23 : List (Nat × (St → Cont (List DV × List (List D)) → Rs)) := [(1, sumT T23o1 (L23o1 KK))]
noncomputable def b23o1 : Code := match nodeAt c23 1 with | some (.loop a) => a | _ => .skip
theorem q23o1 : ∀ m vs K, L23o1 (m + 1) vs K = denK C23 (lkS ST23) b23o1 2 (fillS T23o1 vs) (loopK T23o1 (L23o1 m) K) := fun m vs K => by kernel_rfl
theorem o23o1 : SumOk C23 KK (sumT T23o1 (L23o1 KK)) (.loop b23o1) := loop_ok T23o1 L23o1 (sums_of (t := ST23) ⟨fun _ _ h => absurd h (by decide), trivial⟩) (fun _ _ => rfl) q23o1
theorem r23 : ∀ vs, tw23 vs = bodyK C23 (lkS ST23) Try.f23 (sig 23) c23 (fillAs A23 0 vs) := fun vs => by kernel_rfl
theorem ok23 : ∀ xs q, opt (th23 xs) = some q → evalBody Try.prog sig (Gd G dep (dep 23)) KK 23 xs = some q := fun xs q h => body_ok Try.func23 (c := c23) rfl A23 tw23 (sums_of (C := C23) (t := ST23) ⟨sum_in (c' := .loop b23o1) (by kernel_rfl) (o23o1), trivial⟩) r23 (by rw [← tpw23]; exact opt_gOf h)
noncomputable def C27 : Ctx := ⟨Try.prog, sig, Gd G dep (dep 27), (sig 27).keep, (sig 27).ord⟩
noncomputable def c27 : Code := Try.f27.body.getD .skip
def T27o1 : TSt := ⟨[.d (.l), .d (.b), .d (.i .i64), .d (.b), .any, .any], []⟩
def X27o1e1 : TSt := ⟨[.d (.l), .d (.b), .d (.i .i64), .d (.b), .d (.b), .d (.b)], []⟩
def X27o1e2 : TSt := ⟨[.d (.l), .d (.b), .d (.i .i64), .d (.b), .d (.b), .any], []⟩
def L27o1 (m : Nat) (vs : List Vr) (K : Cont (List DV × List (List D))) : Rs := la27o1 tu23 (vL vs 0) (vB vs 1) (vB vs 3) (fun n18 b19 b20 => K .ret (fillS X27o1e1 [.l (vL vs 0), .b (false), .i (n18), .b (vB vs 3), .b (b19), .b (b20)])) (fun n21 b22 v23 => K (.exit 0) (fillS X27o1e2 [.l (vL vs 0), .b (vB vs 1), .i (n21), .b (vB vs 3), .b (b22), .v (v23)])) m (vI vs 2) (vV vs 4) (vV vs 5)
def ST27 : List (Nat × (St → Cont (List DV × List (List D)) → Rs)) := [(1, sumT T27o1 (L27o1 KK))]
noncomputable def b27o1 : Code := match nodeAt c27 1 with | some (.loop a) => a | _ => .skip
theorem q27o1 : ∀ m vs K, L27o1 (m + 1) vs K = denK C27 (lkS ST27) b27o1 2 (fillS T27o1 vs) (loopK T27o1 (L27o1 m) K) := fun m vs K => by kernel_rfl
theorem o27o1 : SumOk C27 KK (sumT T27o1 (L27o1 KK)) (.loop b27o1) := loop_ok T27o1 L27o1 (sums_of (t := ST27) ⟨fun _ _ h => absurd h (by decide), trivial⟩) (fun _ _ => rfl) q27o1
theorem r27 : ∀ vs, tw27 vs = bodyK C27 (lkS ST27) Try.f27 (sig 27) c27 (fillAs A27 0 vs) := fun vs => by kernel_rfl
theorem ok27 : ∀ xs q, opt (th27 xs) = some q → evalBody Try.prog sig (Gd G dep (dep 27)) KK 27 xs = some q := fun xs q h => body_ok Try.func27 (c := c27) rfl A27 tw27 (sums_of (C := C27) (t := ST27) ⟨sum_in (c' := .loop b27o1) (by kernel_rfl) (o27o1), trivial⟩) r27 (by rw [← tpw27]; exact opt_gOf h)
noncomputable def C63 : Ctx := ⟨Try.prog, sig, Gd G dep (dep 63), (sig 63).keep, (sig 63).ord⟩
noncomputable def c63 : Code := Try.f63.body.getD .skip
def ST63 : List (Nat × (St → Cont (List DV × List (List D)) → Rs)) := []
theorem r63 : ∀ vs, tw63 vs = bodyK C63 (lkS ST63) Try.f63 (sig 63) c63 (fillAs A63 0 vs) := fun vs => by kernel_rfl
theorem ok63 : ∀ xs q, opt (th63 xs) = some q → evalBody Try.prog sig (Gd G dep (dep 63)) KK 63 xs = some q := fun xs q h => body_ok Try.func63 (c := c63) rfl A63 tw63 (sums_of (C := C63) (t := ST63) trivial) r63 (by rw [← tpw63]; exact opt_gOf h)
noncomputable def C64 : Ctx := ⟨Try.prog, sig, Gd G dep (dep 64), (sig 64).keep, (sig 64).ord⟩
noncomputable def c64 : Code := Try.f64.body.getD .skip
def ST64 : List (Nat × (St → Cont (List DV × List (List D)) → Rs)) := []
theorem r64 : ∀ vs, tw64 vs = bodyK C64 (lkS ST64) Try.f64 (sig 64) c64 (fillAs A64 0 vs) := fun vs => by kernel_rfl
theorem ok64 : ∀ xs q, opt (th64 xs) = some q → evalBody Try.prog sig (Gd G dep (dep 64)) KK 64 xs = some q := fun xs q h => body_ok Try.func64 (c := c64) rfl A64 tw64 (sums_of (C := C64) (t := ST64) trivial) r64 (by rw [← tpw64]; exact opt_gOf h)
noncomputable def C65 : Ctx := ⟨Try.prog, sig, Gd G dep (dep 65), (sig 65).keep, (sig 65).ord⟩
noncomputable def c65 : Code := Try.f65.body.getD .skip
def T65o0 : TSt := ⟨[.d (.l), .d (.b), .any, .undef, .d (.l), .d (.i .i64), .d (.i .i64), .any, .any], []⟩
def X65o0e1 : TSt := ⟨[.d (.l), .d (.b), .d (.i .i64), .ptr 256 0, .d (.l), .d (.i .i64), .d (.i .i64), .d (.b), .d (.b)], [(256, .box [.d (.i .i64), .d (.i .i64), .d (.i .i64), .d (.i .i64), .d (.i .i64)])]⟩
def X65o0e2 : TSt := ⟨[.d (.l), .d (.b), .any, .undef, .d (.l), .d (.i .i64), .d (.i .i64), .d (.b), .any], []⟩
def L65o0 (m : Nat) (vs : List Vr) (K : Cont (List DV × List (List D))) : Rs := la65o0 tu63 (vL vs 0) (vB vs 1) (vL vs 3) (vI vs 4) (fun n23 b24 b25 n26 n27 n28 n29 n30 => K .ret (fillS X65o0e1 [.l (vL vs 0), .b (false), .i (n23), .l (vL vs 3), .i (vI vs 4), .i (n23), .b (b24), .b (b25), .i (n26), .i (n27), .i (n28), .i (n29), .i (n30)])) (fun v31 n32 b33 v34 => K (.exit 0) (fillS X65o0e2 [.l (vL vs 0), .b (vB vs 1), .v (v31), .l (vL vs 3), .i (vI vs 4), .i (n32), .b (b33), .v (v34)])) m (vV vs 2) (vI vs 5) (vV vs 6) (vV vs 7)
def ST65 : List (Nat × (St → Cont (List DV × List (List D)) → Rs)) := [(0, sumT T65o0 (L65o0 KK))]
noncomputable def b65o0 : Code := match nodeAt c65 0 with | some (.loop a) => a | _ => .skip
theorem q65o0 : ∀ m vs K, L65o0 (m + 1) vs K = denK C65 (lkS ST65) b65o0 1 (fillS T65o0 vs) (loopK T65o0 (L65o0 m) K) := fun m vs K => by kernel_rfl
theorem o65o0 : SumOk C65 KK (sumT T65o0 (L65o0 KK)) (.loop b65o0) := loop_ok T65o0 L65o0 (sums_of (t := ST65) ⟨fun _ _ h => absurd h (by decide), trivial⟩) (fun _ _ => rfl) q65o0
theorem r65 : ∀ vs, tw65 vs = bodyK C65 (lkS ST65) Try.f65 (sig 65) c65 (fillAs A65 0 vs) := fun vs => by kernel_rfl
theorem ok65 : ∀ xs q, opt (th65 xs) = some q → evalBody Try.prog sig (Gd G dep (dep 65)) KK 65 xs = some q := fun xs q h => body_ok Try.func65 (c := c65) rfl A65 tw65 (sums_of (C := C65) (t := ST65) ⟨sum_in (c' := .loop b65o0) (by kernel_rfl) (o65o0), trivial⟩) r65 (by rw [← tpw65]; exact opt_gOf h)
noncomputable def C141 : Ctx := ⟨Try.prog, sig, Gd G dep (dep 141), (sig 141).keep, (sig 141).ord⟩
noncomputable def c141 : Code := Try.f141.body.getD .skip
def ST141 : List (Nat × (St → Cont (List DV × List (List D)) → Rs)) := []
theorem r141 : ∀ vs, tw141 vs = bodyK C141 (lkS ST141) Try.f141 (sig 141) c141 (fillAs A141 0 vs) := fun vs => by kernel_rfl
theorem ok141 : ∀ xs q, opt (th141 xs) = some q → evalBody Try.prog sig (Gd G dep (dep 141)) KK 141 xs = some q := fun xs q h => body_ok Try.func141 (c := c141) rfl A141 tw141 (sums_of (C := C141) (t := ST141) trivial) r141 (by rw [← tpw141]; exact opt_gOf h)
noncomputable def C130 : Ctx := ⟨Try.prog, sig, Gd G dep (dep 130), (sig 130).keep, (sig 130).ord⟩
noncomputable def c130 : Code := Try.f130.body.getD .skip
def T130o0 : TSt := ⟨[.d (.s), .d (.b), .any, .d (.i .i64), .d (.i .i64), .any, .any], []⟩
def X130o0e1 : TSt := ⟨[.d (.s), .d (.b), .d (.i .i64), .d (.i .i64), .d (.i .i64), .d (.b), .d (.b)], []⟩
def X130o0e2 : TSt := ⟨[.d (.s), .d (.b), .any, .d (.i .i64), .d (.i .i64), .d (.b), .any], []⟩
def L130o0 (m : Nat) (vs : List Vr) (K : Cont (List DV × List (List D))) : Rs := la130o0 tu63 tu141 (vS vs 0) (vB vs 1) (vI vs 3) (fun n20 b21 b22 => K .ret (fillS X130o0e1 [.s (vS vs 0), .b (false), .i (n20), .i (vI vs 3), .i (n20), .b (b21), .b (b22)])) (fun v23 n24 b25 v26 => K (.exit 0) (fillS X130o0e2 [.s (vS vs 0), .b (vB vs 1), .v (v23), .i (vI vs 3), .i (n24), .b (b25), .v (v26)])) m (vV vs 2) (vI vs 4) (vV vs 5) (vV vs 6)
def ST130 : List (Nat × (St → Cont (List DV × List (List D)) → Rs)) := [(0, sumT T130o0 (L130o0 KK))]
noncomputable def b130o0 : Code := match nodeAt c130 0 with | some (.loop a) => a | _ => .skip
theorem q130o0 : ∀ m vs K, L130o0 (m + 1) vs K = denK C130 (lkS ST130) b130o0 1 (fillS T130o0 vs) (loopK T130o0 (L130o0 m) K) := fun m vs K => by kernel_rfl
theorem o130o0 : SumOk C130 KK (sumT T130o0 (L130o0 KK)) (.loop b130o0) := loop_ok T130o0 L130o0 (sums_of (t := ST130) ⟨fun _ _ h => absurd h (by decide), trivial⟩) (fun _ _ => rfl) q130o0
theorem r130 : ∀ vs, tw130 vs = bodyK C130 (lkS ST130) Try.f130 (sig 130) c130 (fillAs A130 0 vs) := fun vs => by kernel_rfl
theorem ok130 : ∀ xs q, opt (th130 xs) = some q → evalBody Try.prog sig (Gd G dep (dep 130)) KK 130 xs = some q := fun xs q h => body_ok Try.func130 (c := c130) rfl A130 tw130 (sums_of (C := C130) (t := ST130) ⟨sum_in (c' := .loop b130o0) (by kernel_rfl) (o130o0), trivial⟩) r130 (by rw [← tpw130]; exact opt_gOf h)
noncomputable def C142 : Ctx := ⟨Try.prog, sig, Gd G dep (dep 142), (sig 142).keep, (sig 142).ord⟩
noncomputable def c142 : Code := Try.f142.body.getD .skip
def T142o0 : TSt := ⟨[.d (.s), .d (.b), .any, .d (.i .i64), .d (.i .i64), .any, .any], []⟩
def X142o0e1 : TSt := ⟨[.d (.s), .d (.b), .d (.i .i64), .d (.i .i64), .d (.i .i64), .d (.b), .d (.b)], []⟩
def X142o0e2 : TSt := ⟨[.d (.s), .d (.b), .any, .d (.i .i64), .d (.i .i64), .d (.b), .any], []⟩
def L142o0 (m : Nat) (vs : List Vr) (K : Cont (List DV × List (List D))) : Rs := la142o0 tu63 tu141 (vS vs 0) (vB vs 1) (vI vs 3) (fun n20 b21 b22 => K .ret (fillS X142o0e1 [.s (vS vs 0), .b (false), .i (n20), .i (vI vs 3), .i (n20), .b (b21), .b (b22)])) (fun v23 n24 b25 v26 => K (.exit 0) (fillS X142o0e2 [.s (vS vs 0), .b (vB vs 1), .v (v23), .i (vI vs 3), .i (n24), .b (b25), .v (v26)])) m (vV vs 2) (vI vs 4) (vV vs 5) (vV vs 6)
def ST142 : List (Nat × (St → Cont (List DV × List (List D)) → Rs)) := [(0, sumT T142o0 (L142o0 KK))]
noncomputable def b142o0 : Code := match nodeAt c142 0 with | some (.loop a) => a | _ => .skip
theorem q142o0 : ∀ m vs K, L142o0 (m + 1) vs K = denK C142 (lkS ST142) b142o0 1 (fillS T142o0 vs) (loopK T142o0 (L142o0 m) K) := fun m vs K => by kernel_rfl
theorem o142o0 : SumOk C142 KK (sumT T142o0 (L142o0 KK)) (.loop b142o0) := loop_ok T142o0 L142o0 (sums_of (t := ST142) ⟨fun _ _ h => absurd h (by decide), trivial⟩) (fun _ _ => rfl) q142o0
theorem r142 : ∀ vs, tw142 vs = bodyK C142 (lkS ST142) Try.f142 (sig 142) c142 (fillAs A142 0 vs) := fun vs => by kernel_rfl
theorem ok142 : ∀ xs q, opt (th142 xs) = some q → evalBody Try.prog sig (Gd G dep (dep 142)) KK 142 xs = some q := fun xs q h => body_ok Try.func142 (c := c142) rfl A142 tw142 (sums_of (C := C142) (t := ST142) ⟨sum_in (c' := .loop b142o0) (by kernel_rfl) (o142o0), trivial⟩) r142 (by rw [← tpw142]; exact opt_gOf h)
noncomputable def C132 : Ctx := ⟨Try.prog, sig, Gd G dep (dep 132), (sig 132).keep, (sig 132).ord⟩
noncomputable def c132 : Code := Try.f132.body.getD .skip
def T132o0 : TSt := ⟨[.pv [.i .i64, .l] 0, .d (.i .i64), .nilp, .any, .d (.i .i64), .d (.i .i64), .any, .any], []⟩
def X132o0e1 : TSt := ⟨[.pv [.i .i64, .l] 0, .d (.i .i64), .pv [.i .i64, .i .i64, .i .i64, .i .i64, .i .i64, .s, .l, .i .i64, .i .i64] 0, .d (.i .i64), .d (.i .i64), .d (.i .i64), .d (.b), .d (.b)], []⟩
def X132o0e2 : TSt := ⟨[.pv [.i .i64, .l] 0, .d (.i .i64), .nilp, .any, .d (.i .i64), .d (.i .i64), .d (.b), .any], []⟩
def L132o0 (m : Nat) (vs : List Vr) (K : Cont (List DV × List (List D))) : Rs := l132o0 (vI vs 0) (vL vs 1) (vI vs 2) (vI vs 4) (fun n25 n26 n27 n28 n29 s30 l31 n32 n33 n34 b35 b36 => K .ret (fillS X132o0e1 [.i (vI vs 0), .l (vL vs 1), .i (vI vs 2), .i (n25), .i (n26), .i (n27), .i (n28), .i (n29), .s (s30), .l (l31), .i (n32), .i (n33), .i (n34), .i (vI vs 4), .i (n34), .b (b35), .b (b36)])) (fun v37 n38 b39 v40 => K (.exit 0) (fillS X132o0e2 [.i (vI vs 0), .l (vL vs 1), .i (vI vs 2), .v (v37), .i (vI vs 4), .i (n38), .b (b39), .v (v40)])) m (vV vs 3) (vI vs 5) (vV vs 6) (vV vs 7)
def ST132 : List (Nat × (St → Cont (List DV × List (List D)) → Rs)) := [(0, sumT T132o0 (L132o0 KK))]
noncomputable def b132o0 : Code := match nodeAt c132 0 with | some (.loop a) => a | _ => .skip
theorem q132o0 : ∀ m vs K, L132o0 (m + 1) vs K = denK C132 (lkS ST132) b132o0 1 (fillS T132o0 vs) (loopK T132o0 (L132o0 m) K) := fun m vs K => by kernel_rfl
theorem o132o0 : SumOk C132 KK (sumT T132o0 (L132o0 KK)) (.loop b132o0) := loop_ok T132o0 L132o0 (sums_of (t := ST132) ⟨fun _ _ h => absurd h (by decide), trivial⟩) (fun _ _ => rfl) q132o0
theorem r132 : ∀ vs, tw132 vs = bodyK C132 (lkS ST132) Try.f132 (sig 132) c132 (fillAs A132 0 vs) := fun vs => by kernel_rfl
theorem ok132 : ∀ xs q, opt (th132 xs) = some q → evalBody Try.prog sig (Gd G dep (dep 132)) KK 132 xs = some q := fun xs q h => body_ok Try.func132 (c := c132) rfl A132 tw132 (sums_of (C := C132) (t := ST132) ⟨sum_in (c' := .loop b132o0) (by kernel_rfl) (o132o0), trivial⟩) r132 (by rw [← tpw132]; exact opt_gOf h)
noncomputable def C131 : Ctx := ⟨Try.prog, sig, Gd G dep (dep 131), (sig 131).keep, (sig 131).ord⟩
noncomputable def c131 : Code := Try.f131.body.getD .skip
def T131o0 : TSt := ⟨[.pv [.i .i64, .l] 0, .agg [.d (.i .i64), .d (.i .i64), .d (.i .i64), .d (.i .i64), .d (.i .i64), .d (.s), .d (.l), .d (.i .i64), .d (.i .i64)], .ptr 192 0, .d (.b), .any, .undef, .d (.l), .d (.i .i64), .d (.i .i64), .any, .any], [(192, .box [.d (.i .i64), .d (.i .i64), .d (.i .i64), .d (.i .i64), .d (.i .i64), .d (.s), .d (.l), .d (.i .i64), .d (.i .i64)])]⟩
def X131o0e1 : TSt := ⟨[.pv [.i .i64, .l] 0, .agg [.d (.i .i64), .d (.i .i64), .d (.i .i64), .d (.i .i64), .d (.i .i64), .d (.s), .d (.l), .d (.i .i64), .d (.i .i64)], .ptr 192 0, .d (.b), .d (.i .i64), .ptr 384 0, .d (.l), .d (.i .i64), .d (.i .i64), .d (.b), .d (.b)], [(192, .box [.d (.i .i64), .d (.i .i64), .d (.i .i64), .d (.i .i64), .d (.i .i64), .d (.s), .d (.l), .d (.i .i64), .d (.i .i64)]), (384, .box [.d (.s), .d (.i .i64)])]⟩
def X131o0e2 : TSt := ⟨[.pv [.i .i64, .l] 0, .agg [.d (.i .i64), .d (.i .i64), .d (.i .i64), .d (.i .i64), .d (.i .i64), .d (.s), .d (.l), .d (.i .i64), .d (.i .i64)], .ptr 192 0, .d (.b), .any, .undef, .d (.l), .d (.i .i64), .d (.i .i64), .d (.b), .any], [(192, .box [.d (.i .i64), .d (.i .i64), .d (.i .i64), .d (.i .i64), .d (.i .i64), .d (.s), .d (.l), .d (.i .i64), .d (.i .i64)])]⟩
def L131o0 (m : Nat) (vs : List Vr) (K : Cont (List DV × List (List D))) : Rs := la131o0 tu132 tu142 (vI vs 0) (vL vs 1) (vI vs 2) (vI vs 3) (vI vs 4) (vI vs 5) (vI vs 6) (vS vs 7) (vL vs 8) (vI vs 9) (vI vs 10) (vB vs 11) (vL vs 13) (vI vs 14) (vI vs 18) (vI vs 19) (vI vs 20) (vI vs 21) (vI vs 22) (vS vs 23) (vL vs 24) (vI vs 25) (vI vs 26) (fun n90 b91 b92 s93 n94 => K .ret (fillS X131o0e1 [.i (vI vs 0), .l (vL vs 1), .i (vI vs 2), .i (vI vs 3), .i (vI vs 4), .i (vI vs 5), .i (vI vs 6), .s (vS vs 7), .l (vL vs 8), .i (vI vs 9), .i (vI vs 10), .b (false), .i (n90), .l (vL vs 13), .i (vI vs 14), .i (n90), .b (b91), .b (b92), .i (vI vs 18), .i (vI vs 19), .i (vI vs 20), .i (vI vs 21), .i (vI vs 22), .s (vS vs 23), .l (vL vs 24), .i (vI vs 25), .i (vI vs 26), .s (s93), .i (n94)])) (fun v95 n96 b97 v98 => K (.exit 0) (fillS X131o0e2 [.i (vI vs 0), .l (vL vs 1), .i (vI vs 2), .i (vI vs 3), .i (vI vs 4), .i (vI vs 5), .i (vI vs 6), .s (vS vs 7), .l (vL vs 8), .i (vI vs 9), .i (vI vs 10), .b (vB vs 11), .v (v95), .l (vL vs 13), .i (vI vs 14), .i (n96), .b (b97), .v (v98), .i (vI vs 18), .i (vI vs 19), .i (vI vs 20), .i (vI vs 21), .i (vI vs 22), .s (vS vs 23), .l (vL vs 24), .i (vI vs 25), .i (vI vs 26)])) m (vV vs 12) (vI vs 15) (vV vs 16) (vV vs 17)
def ST131 : List (Nat × (St → Cont (List DV × List (List D)) → Rs)) := [(0, sumT T131o0 (L131o0 KK))]
noncomputable def b131o0 : Code := match nodeAt c131 0 with | some (.loop a) => a | _ => .skip
theorem q131o0 : ∀ m vs K, L131o0 (m + 1) vs K = denK C131 (lkS ST131) b131o0 1 (fillS T131o0 vs) (loopK T131o0 (L131o0 m) K) := fun m vs K => by kernel_rfl
theorem o131o0 : SumOk C131 KK (sumT T131o0 (L131o0 KK)) (.loop b131o0) := loop_ok T131o0 L131o0 (sums_of (t := ST131) ⟨fun _ _ h => absurd h (by decide), trivial⟩) (fun _ _ => rfl) q131o0
theorem r131 : ∀ vs, tw131 vs = bodyK C131 (lkS ST131) Try.f131 (sig 131) c131 (fillAs A131 0 vs) := fun vs => by kernel_rfl
theorem ok131 : ∀ xs q, opt (th131 xs) = some q → evalBody Try.prog sig (Gd G dep (dep 131)) KK 131 xs = some q := fun xs q h => body_ok Try.func131 (c := c131) rfl A131 tw131 (sums_of (C := C131) (t := ST131) ⟨sum_in (c' := .loop b131o0) (by kernel_rfl) (o131o0), trivial⟩) r131 (by rw [← tpw131]; exact opt_gOf h)
noncomputable def C99 : Ctx := ⟨Try.prog, sig, Gd G dep (dep 99), (sig 99).keep, (sig 99).ord⟩
noncomputable def c99 : Code := Try.f99.body.getD .skip
def ST99 : List (Nat × (St → Cont (List DV × List (List D)) → Rs)) := []
theorem r99 : ∀ vs, tw99 vs = bodyK C99 (lkS ST99) Try.f99 (sig 99) c99 (fillAs A99 0 vs) := fun vs => by kernel_rfl
theorem ok99 : ∀ xs q, opt (th99 xs) = some q → evalBody Try.prog sig (Gd G dep (dep 99)) KK 99 xs = some q := fun xs q h => body_ok Try.func99 (c := c99) rfl A99 tw99 (sums_of (C := C99) (t := ST99) trivial) r99 (by rw [← tpw99]; exact opt_gOf h)
noncomputable def C133 : Ctx := ⟨Try.prog, sig, Gd G dep (dep 133), (sig 133).keep, (sig 133).ord⟩
noncomputable def c133 : Code := Try.f133.body.getD .skip
def T133o0 : TSt := ⟨[.d (.l), .d (.i .i64), .d (.i .i64), .any, .d (.i .i64), .d (.i .i64), .any, .any], []⟩
def X133o0e1 : TSt := ⟨[.d (.l), .d (.i .i64), .d (.i .i64), .d (.i .i64), .d (.i .i64), .d (.i .i64), .d (.b), .d (.b)], []⟩
def X133o0e2 : TSt := ⟨[.d (.l), .d (.i .i64), .d (.i .i64), .any, .d (.i .i64), .d (.i .i64), .d (.b), .any], []⟩
def L133o0 (m : Nat) (vs : List Vr) (K : Cont (List DV × List (List D))) : Rs := l133o0 (vL vs 0) (vI vs 1) (vI vs 2) (vI vs 4) (fun n24 b25 b26 => K .ret (fillS X133o0e1 [.l (vL vs 0), .i (vI vs 1), .i (n24), .i (n24), .i (vI vs 4), .i (n24), .b (b25), .b (b26)])) (fun v27 n28 b29 v30 => K (.exit 0) (fillS X133o0e2 [.l (vL vs 0), .i (vI vs 1), .i (vI vs 2), .v (v27), .i (vI vs 4), .i (n28), .b (b29), .v (v30)])) m (vV vs 3) (vI vs 5) (vV vs 6) (vV vs 7)
def ST133 : List (Nat × (St → Cont (List DV × List (List D)) → Rs)) := [(0, sumT T133o0 (L133o0 KK))]
noncomputable def b133o0 : Code := match nodeAt c133 0 with | some (.loop a) => a | _ => .skip
theorem q133o0 : ∀ m vs K, L133o0 (m + 1) vs K = denK C133 (lkS ST133) b133o0 1 (fillS T133o0 vs) (loopK T133o0 (L133o0 m) K) := fun m vs K => by kernel_rfl
theorem o133o0 : SumOk C133 KK (sumT T133o0 (L133o0 KK)) (.loop b133o0) := loop_ok T133o0 L133o0 (sums_of (t := ST133) ⟨fun _ _ h => absurd h (by decide), trivial⟩) (fun _ _ => rfl) q133o0
theorem r133 : ∀ vs, tw133 vs = bodyK C133 (lkS ST133) Try.f133 (sig 133) c133 (fillAs A133 0 vs) := fun vs => by kernel_rfl
theorem ok133 : ∀ xs q, opt (th133 xs) = some q → evalBody Try.prog sig (Gd G dep (dep 133)) KK 133 xs = some q := fun xs q h => body_ok Try.func133 (c := c133) rfl A133 tw133 (sums_of (C := C133) (t := ST133) ⟨sum_in (c' := .loop b133o0) (by kernel_rfl) (o133o0), trivial⟩) r133 (by rw [← tpw133]; exact opt_gOf h)
noncomputable def C101 : Ctx := ⟨Try.prog, sig, Gd G dep (dep 101), (sig 101).keep, (sig 101).ord⟩
noncomputable def c101 : Code := Try.f101.body.getD .skip
def ST101 : List (Nat × (St → Cont (List DV × List (List D)) → Rs)) := []
theorem r101 : ∀ vs, tw101 vs = bodyK C101 (lkS ST101) Try.f101 (sig 101) c101 (fillAs A101 0 vs) := fun vs => by kernel_rfl
theorem ok101 : ∀ xs q, opt (th101 xs) = some q → evalBody Try.prog sig (Gd G dep (dep 101)) KK 101 xs = some q := fun xs q h => body_ok Try.func101 (c := c101) rfl A101 tw101 (sums_of (C := C101) (t := ST101) trivial) r101 (by rw [← tpw101]; exact opt_gOf h)
noncomputable def C100 : Ctx := ⟨Try.prog, sig, Gd G dep (dep 100), (sig 100).keep, (sig 100).ord⟩
noncomputable def c100 : Code := Try.f100.body.getD .skip
def T100o3 : TSt := ⟨[.pv [.i .i64, .l] 0, .d (.i .i64), .nils, .own 704, .own 832, .d (.i .i64), .any, .undef, .d (.b), .d (.b), .d (.l), .d (.i .i64), .d (.i .i64), .any, .any], [(704, .row 3 1), (832, .row 3 1)]⟩
def X100o3e1 : TSt := ⟨[.pv [.i .i64, .l] 0, .d (.i .i64), .nils, .own 704, .own 832, .d (.i .i64), .any, .undef, .d (.b), .d (.b), .d (.l), .d (.i .i64), .d (.i .i64), .d (.b), .any], [(704, .row 3 1), (832, .row 3 1)]⟩
def L100o3 (m : Nat) (vs : List Vr) (K : Cont (List DV × List (List D))) : Rs := la100o3 tu101 tu132 (vI vs 0) (vL vs 1) (vI vs 2) (vI vs 3) (vB vs 5) (vB vs 6) (vL vs 7) (vI vs 8) (fun v130 n131 b132 v133 l134 l135 => K (.exit 2) (fillS X100o3e1 [.i (vI vs 0), .l (vL vs 1), .i (vI vs 2), .i (vI vs 3), .v (v130), .b (vB vs 5), .b (vB vs 6), .l (vL vs 7), .i (vI vs 8), .i (n131), .b (b132), .v (v133), .l (l134), .l (l135)])) m (vV vs 4) (vI vs 9) (vV vs 10) (vV vs 11) (vL vs 12) (vL vs 13)
def T100o0 : TSt := ⟨[.pv [.i .i64, .l] 0, .d (.i .i64), .nils, .own 704, .own 832, .d (.i .i64), .any, .undef, .any, .any, .any, .any, .any, .any, .any], [(704, .row 3 1), (832, .row 3 1)]⟩
def X100o0e1 : TSt := ⟨[.pv [.i .i64, .l] 0, .d (.i .i64), .nils, .own 704, .own 832, .d (.i .i64), .any, .undef, .d (.b), .any, .any, .any, .any, .any, .any], [(704, .row 3 1), (832, .row 3 1)]⟩
def L100o0 (m : Nat) (vs : List Vr) (K : Cont (List DV × List (List D))) : Rs := la100o0 tu101 tu132 (vI vs 0) (vL vs 1) (vI vs 2) (fun n170 v171 b172 v173 v174 v175 v176 v177 v178 l179 l180 => K (.exit 0) (fillS X100o0e1 [.i (vI vs 0), .l (vL vs 1), .i (vI vs 2), .i (n170), .v (v171), .b (b172), .v (v173), .v (v174), .v (v175), .v (v176), .v (v177), .v (v178), .l (l179), .l (l180)])) m (vI vs 3) (vV vs 4) (vV vs 5) (vV vs 6) (vV vs 7) (vV vs 8) (vV vs 9) (vV vs 10) (vV vs 11) (vL vs 12) (vL vs 13)
def ST100 : List (Nat × (St → Cont (List DV × List (List D)) → Rs)) := [(3, sumT T100o3 (L100o3 KK)), (0, sumT T100o0 (L100o0 KK))]
noncomputable def b100o3 : Code := match nodeAt c100 3 with | some (.loop a) => a | _ => .skip
noncomputable def b100o0 : Code := match nodeAt c100 0 with | some (.loop a) => a | _ => .skip
theorem q100o3 : ∀ m vs K, L100o3 (m + 1) vs K = denK C100 (lkS ST100) b100o3 4 (fillS T100o3 vs) (loopK T100o3 (L100o3 m) K) := fun m vs K => by kernel_rfl
theorem o100o3 : SumOk C100 KK (sumT T100o3 (L100o3 KK)) (.loop b100o3) := loop_ok T100o3 L100o3 (sums_of (t := ST100) ⟨fun _ _ h => absurd h (by decide), fun _ _ h => absurd h (by decide), trivial⟩) (fun _ _ => rfl) q100o3
theorem q100o0 : ∀ m vs K, L100o0 (m + 1) vs K = denK C100 (lkS ST100) b100o0 1 (fillS T100o0 vs) (loopK T100o0 (L100o0 m) K) := fun m vs K => by kernel_rfl
theorem o100o0 : SumOk C100 KK (sumT T100o0 (L100o0 KK)) (.loop b100o0) := loop_ok T100o0 L100o0 (sums_of (t := ST100) ⟨sum_in (c' := .loop b100o3) (by kernel_rfl) (o100o3), fun _ _ h => absurd h (by decide), trivial⟩) (fun _ _ => rfl) q100o0
theorem r100 : ∀ vs, tw100 vs = bodyK C100 (lkS ST100) Try.f100 (sig 100) c100 (fillAs A100 0 vs) := fun vs => by kernel_rfl
theorem ok100 : ∀ xs q, opt (th100 xs) = some q → evalBody Try.prog sig (Gd G dep (dep 100)) KK 100 xs = some q := fun xs q h => body_ok Try.func100 (c := c100) rfl A100 tw100 (sums_of (C := C100) (t := ST100) ⟨sum_in (c' := .loop b100o3) (by kernel_rfl) (o100o3), sum_in (c' := .loop b100o0) (by kernel_rfl) (o100o0), trivial⟩) r100 (by rw [← tpw100]; exact opt_gOf h)
noncomputable def C102 : Ctx := ⟨Try.prog, sig, Gd G dep (dep 102), (sig 102).keep, (sig 102).ord⟩
noncomputable def c102 : Code := Try.f102.body.getD .skip
def T102o2 : TSt := ⟨[.pv [.i .i64, .l] 0, .d (.i .i64), .d (.i .i64), .d (.i .i64), .ptr 448 0, .undef, .d (.l), .d (.i .i64), .d (.i .i64), .d (.b), .d (.l), .d (.i .i64), .d (.i .i64), .any, .any], [(448, .box [.d (.i .i64), .d (.i .i64), .d (.i .i64), .d (.i .i64), .d (.i .i64), .d (.s), .d (.l), .d (.i .i64), .d (.i .i64)])]⟩
def X102o2e1 : TSt := ⟨[.pv [.i .i64, .l] 0, .d (.i .i64), .d (.i .i64), .d (.i .i64), .ptr 448 0, .undef, .d (.l), .d (.i .i64), .d (.i .i64), .d (.b), .d (.l), .d (.i .i64), .d (.i .i64), .d (.b), .any], [(448, .box [.d (.i .i64), .d (.i .i64), .d (.i .i64), .d (.i .i64), .d (.i .i64), .d (.s), .d (.l), .d (.i .i64), .d (.i .i64)])]⟩
def L102o2 (m : Nat) (vs : List Vr) (K : Cont (List DV × List (List D))) : Rs := l102o2 (vI vs 0) (vL vs 1) (vI vs 2) (vI vs 3) (vL vs 5) (vI vs 6) (vI vs 7) (vB vs 8) (vL vs 9) (vI vs 10) (vI vs 14) (vI vs 15) (vI vs 16) (vI vs 17) (vI vs 18) (vS vs 19) (vL vs 20) (vI vs 21) (vI vs 22) (fun n174 n175 b176 v177 => K (.exit 2) (fillS X102o2e1 [.i (vI vs 0), .l (vL vs 1), .i (vI vs 2), .i (vI vs 3), .i (n174), .l (vL vs 5), .i (vI vs 6), .i (vI vs 7), .b (vB vs 8), .l (vL vs 9), .i (vI vs 10), .i (n175), .b (b176), .v (v177), .i (vI vs 14), .i (vI vs 15), .i (vI vs 16), .i (vI vs 17), .i (vI vs 18), .s (vS vs 19), .l (vL vs 20), .i (vI vs 21), .i (vI vs 22)])) m (vI vs 4) (vI vs 11) (vV vs 12) (vV vs 13)
def T102o0 : TSt := ⟨[.pv [.i .i64, .l] 0, .d (.i .i64), .d (.i .i64), .d (.i .i64), .undef, .undef, .d (.l), .d (.i .i64), .d (.i .i64), .any, .any, .any, .any, .any, .any], []⟩
def X102o0e1 : TSt := ⟨[.pv [.i .i64, .l] 0, .d (.i .i64), .d (.i .i64), .d (.i .i64), .undef, .undef, .d (.l), .d (.i .i64), .d (.i .i64), .d (.b), .any, .any, .any, .any, .any], []⟩
def L102o0 (m : Nat) (vs : List Vr) (K : Cont (List DV × List (List D))) : Rs := l102o0 (vI vs 0) (vL vs 1) (vI vs 2) (vI vs 3) (vL vs 5) (vI vs 6) (fun n196 n197 b198 v199 v200 v201 v202 v203 => K (.exit 0) (fillS X102o0e1 [.i (vI vs 0), .l (vL vs 1), .i (vI vs 2), .i (vI vs 3), .i (n196), .l (vL vs 5), .i (vI vs 6), .i (n197), .b (b198), .v (v199), .v (v200), .v (v201), .v (v202), .v (v203)])) m (vI vs 4) (vI vs 7) (vV vs 8) (vV vs 9) (vV vs 10) (vV vs 11) (vV vs 12) (vV vs 13)
def ST102 : List (Nat × (St → Cont (List DV × List (List D)) → Rs)) := [(2, sumT T102o2 (L102o2 KK)), (0, sumT T102o0 (L102o0 KK))]
noncomputable def b102o2 : Code := match nodeAt c102 2 with | some (.loop a) => a | _ => .skip
noncomputable def b102o0 : Code := match nodeAt c102 0 with | some (.loop a) => a | _ => .skip
theorem q102o2 : ∀ m vs K, L102o2 (m + 1) vs K = denK C102 (lkS ST102) b102o2 3 (fillS T102o2 vs) (loopK T102o2 (L102o2 m) K) := fun m vs K => by kernel_rfl
theorem o102o2 : SumOk C102 KK (sumT T102o2 (L102o2 KK)) (.loop b102o2) := loop_ok T102o2 L102o2 (sums_of (t := ST102) ⟨fun _ _ h => absurd h (by decide), fun _ _ h => absurd h (by decide), trivial⟩) (fun _ _ => rfl) q102o2
theorem q102o0 : ∀ m vs K, L102o0 (m + 1) vs K = denK C102 (lkS ST102) b102o0 1 (fillS T102o0 vs) (loopK T102o0 (L102o0 m) K) := fun m vs K => by kernel_rfl
theorem o102o0 : SumOk C102 KK (sumT T102o0 (L102o0 KK)) (.loop b102o0) := loop_ok T102o0 L102o0 (sums_of (t := ST102) ⟨sum_in (c' := .loop b102o2) (by kernel_rfl) (o102o2), fun _ _ h => absurd h (by decide), trivial⟩) (fun _ _ => rfl) q102o0
theorem r102 : ∀ vs, tw102 vs = bodyK C102 (lkS ST102) Try.f102 (sig 102) c102 (fillAs A102 0 vs) := fun vs => by kernel_rfl
theorem ok102 : ∀ xs q, opt (th102 xs) = some q → evalBody Try.prog sig (Gd G dep (dep 102)) KK 102 xs = some q := fun xs q h => body_ok Try.func102 (c := c102) rfl A102 tw102 (sums_of (C := C102) (t := ST102) ⟨sum_in (c' := .loop b102o2) (by kernel_rfl) (o102o2), sum_in (c' := .loop b102o0) (by kernel_rfl) (o102o0), trivial⟩) r102 (by rw [← tpw102]; exact opt_gOf h)
noncomputable def C103 : Ctx := ⟨Try.prog, sig, Gd G dep (dep 103), (sig 103).keep, (sig 103).ord⟩
noncomputable def c103 : Code := Try.f103.body.getD .skip
def T103o0 : TSt := ⟨[.pv [.i .i64, .l] 0, .d (.i .i64), .d (.i .i64), .undef, .d (.l), .d (.i .i64), .d (.i .i64), .any], []⟩
def X103o0e1 : TSt := ⟨[.pv [.i .i64, .l] 0, .d (.i .i64), .d (.i .i64), .undef, .d (.l), .d (.i .i64), .d (.i .i64), .d (.b)], []⟩
def L103o0 (m : Nat) (vs : List Vr) (K : Cont (List DV × List (List D))) : Rs := l103o0 (vI vs 0) (vL vs 1) (vI vs 2) (vL vs 4) (vI vs 5) (fun n26 n27 b28 => K (.exit 0) (fillS X103o0e1 [.i (vI vs 0), .l (vL vs 1), .i (vI vs 2), .i (n26), .l (vL vs 4), .i (vI vs 5), .i (n27), .b (b28)])) m (vI vs 3) (vI vs 6) (vV vs 7)
def ST103 : List (Nat × (St → Cont (List DV × List (List D)) → Rs)) := [(0, sumT T103o0 (L103o0 KK))]
noncomputable def b103o0 : Code := match nodeAt c103 0 with | some (.loop a) => a | _ => .skip
theorem q103o0 : ∀ m vs K, L103o0 (m + 1) vs K = denK C103 (lkS ST103) b103o0 1 (fillS T103o0 vs) (loopK T103o0 (L103o0 m) K) := fun m vs K => by kernel_rfl
theorem o103o0 : SumOk C103 KK (sumT T103o0 (L103o0 KK)) (.loop b103o0) := loop_ok T103o0 L103o0 (sums_of (t := ST103) ⟨fun _ _ h => absurd h (by decide), trivial⟩) (fun _ _ => rfl) q103o0
theorem r103 : ∀ vs, tw103 vs = bodyK C103 (lkS ST103) Try.f103 (sig 103) c103 (fillAs A103 0 vs) := fun vs => by kernel_rfl
theorem ok103 : ∀ xs q, opt (th103 xs) = some q → evalBody Try.prog sig (Gd G dep (dep 103)) KK 103 xs = some q := fun xs q h => body_ok Try.func103 (c := c103) rfl A103 tw103 (sums_of (C := C103) (t := ST103) ⟨sum_in (c' := .loop b103o0) (by kernel_rfl) (o103o0), trivial⟩) r103 (by rw [← tpw103]; exact opt_gOf h)
noncomputable def C135 : Ctx := ⟨Try.prog, sig, Gd G dep (dep 135), (sig 135).keep, (sig 135).ord⟩
noncomputable def c135 : Code := Try.f135.body.getD .skip
def T135o0 : TSt := ⟨[.pv [.i .i64, .l] 0, .d (.i .i64), .d (.i .i64), .d (.i .i64), .d (.i .i64), .own 832, .any, .any, .own 832, .d (.i .i64), .d (.i .i64), .any, .any], [(832, .row 3 1)]⟩
def X135o0e1 : TSt := ⟨[.pv [.i .i64, .l] 0, .d (.i .i64), .d (.i .i64), .d (.i .i64), .d (.i .i64), .own 832, .any, .any, .own 832, .d (.i .i64), .d (.i .i64), .d (.b), .any], [(832, .row 3 1)]⟩
def L135o0 (m : Nat) (vs : List Vr) (K : Cont (List DV × List (List D))) : Rs := la135o0 tu100 tu132 (vI vs 0) (vL vs 1) (vI vs 2) (vI vs 3) (vI vs 4) (vI vs 8) (vL vs 12) (fun n41 v42 v43 n44 b45 v46 => K (.exit 0) (fillS X135o0e1 [.i (vI vs 0), .l (vL vs 1), .i (vI vs 2), .i (vI vs 3), .i (vI vs 4), .i (n41), .v (v42), .v (v43), .i (vI vs 8), .i (n44), .b (b45), .v (v46), .l (vL vs 12)])) m (vI vs 5) (vV vs 6) (vV vs 7) (vI vs 9) (vV vs 10) (vV vs 11)
def ST135 : List (Nat × (St → Cont (List DV × List (List D)) → Rs)) := [(0, sumT T135o0 (L135o0 KK))]
noncomputable def b135o0 : Code := match nodeAt c135 0 with | some (.loop a) => a | _ => .skip
theorem q135o0 : ∀ m vs K, L135o0 (m + 1) vs K = denK C135 (lkS ST135) b135o0 1 (fillS T135o0 vs) (loopK T135o0 (L135o0 m) K) := fun m vs K => by kernel_rfl
theorem o135o0 : SumOk C135 KK (sumT T135o0 (L135o0 KK)) (.loop b135o0) := loop_ok T135o0 L135o0 (sums_of (t := ST135) ⟨fun _ _ h => absurd h (by decide), trivial⟩) (fun _ _ => rfl) q135o0
theorem r135 : ∀ vs, tw135 vs = bodyK C135 (lkS ST135) Try.f135 (sig 135) c135 (fillAs A135 0 vs) := fun vs => by kernel_rfl
theorem ok135 : ∀ xs q, opt (th135 xs) = some q → evalBody Try.prog sig (Gd G dep (dep 135)) KK 135 xs = some q := fun xs q h => body_ok Try.func135 (c := c135) rfl A135 tw135 (sums_of (C := C135) (t := ST135) ⟨sum_in (c' := .loop b135o0) (by kernel_rfl) (o135o0), trivial⟩) r135 (by rw [← tpw135]; exact opt_gOf h)
noncomputable def C105 : Ctx := ⟨Try.prog, sig, Gd G dep (dep 105), (sig 105).keep, (sig 105).ord⟩
noncomputable def c105 : Code := Try.f105.body.getD .skip
def ST105 : List (Nat × (St → Cont (List DV × List (List D)) → Rs)) := []
theorem r105 : ∀ vs, tw105 vs = bodyK C105 (lkS ST105) Try.f105 (sig 105) c105 (fillAs A105 0 vs) := fun vs => by kernel_rfl
theorem ok105 : ∀ xs q, opt (th105 xs) = some q → evalBody Try.prog sig (Gd G dep (dep 105)) KK 105 xs = some q := fun xs q h => body_ok Try.func105 (c := c105) rfl A105 tw105 (sums_of (C := C105) (t := ST105) trivial) r105 (by rw [← tpw105]; exact opt_gOf h)
noncomputable def C134 : Ctx := ⟨Try.prog, sig, Gd G dep (dep 134), (sig 134).keep, (sig 134).ord⟩
noncomputable def c134 : Code := Try.f134.body.getD .skip
def T134o0 : TSt := ⟨[.d (.l), .fb 105 [.i .i64, .l], .d (.i .i64), .any, .d (.i .i64), .d (.i .i64), .any, .any], []⟩
def X134o0e1 : TSt := ⟨[.d (.l), .fb 105 [.i .i64, .l], .d (.i .i64), .d (.i .i64), .d (.i .i64), .d (.i .i64), .d (.b), .d (.b)], []⟩
def X134o0e2 : TSt := ⟨[.d (.l), .fb 105 [.i .i64, .l], .d (.i .i64), .any, .d (.i .i64), .d (.i .i64), .d (.b), .any], []⟩
def L134o0 (m : Nat) (vs : List Vr) (K : Cont (List DV × List (List D))) : Rs := la134o0 tu105 (vL vs 0) (vI vs 1) (vL vs 2) (vI vs 3) (vI vs 5) (fun n28 b29 b30 => K .ret (fillS X134o0e1 [.l (vL vs 0), .i (vI vs 1), .l (vL vs 2), .i (n28), .i (n28), .i (vI vs 5), .i (n28), .b (b29), .b (b30)])) (fun v31 n32 b33 v34 => K (.exit 0) (fillS X134o0e2 [.l (vL vs 0), .i (vI vs 1), .l (vL vs 2), .i (vI vs 3), .v (v31), .i (vI vs 5), .i (n32), .b (b33), .v (v34)])) m (vV vs 4) (vI vs 6) (vV vs 7) (vV vs 8)
def ST134 : List (Nat × (St → Cont (List DV × List (List D)) → Rs)) := [(0, sumT T134o0 (L134o0 KK))]
noncomputable def b134o0 : Code := match nodeAt c134 0 with | some (.loop a) => a | _ => .skip
theorem q134o0 : ∀ m vs K, L134o0 (m + 1) vs K = denK C134 (lkS ST134) b134o0 1 (fillS T134o0 vs) (loopK T134o0 (L134o0 m) K) := fun m vs K => by kernel_rfl
theorem o134o0 : SumOk C134 KK (sumT T134o0 (L134o0 KK)) (.loop b134o0) := loop_ok T134o0 L134o0 (sums_of (t := ST134) ⟨fun _ _ h => absurd h (by decide), trivial⟩) (fun _ _ => rfl) q134o0
theorem r134 : ∀ vs, tw134 vs = bodyK C134 (lkS ST134) Try.f134 (sig 134) c134 (fillAs A134 0 vs) := fun vs => by kernel_rfl
theorem ok134 : ∀ xs q, opt (th134 xs) = some q → evalBody Try.prog sig (Gd G dep (dep 134)) KK 134 xs = some q := fun xs q h => body_ok Try.func134 (c := c134) rfl A134 tw134 (sums_of (C := C134) (t := ST134) ⟨sum_in (c' := .loop b134o0) (by kernel_rfl) (o134o0), trivial⟩) r134 (by rw [← tpw134]; exact opt_gOf h)
noncomputable def C104 : Ctx := ⟨Try.prog, sig, Gd G dep (dep 104), (sig 104).keep, (sig 104).ord⟩
noncomputable def c104 : Code := Try.f104.body.getD .skip
def ST104 : List (Nat × (St → Cont (List DV × List (List D)) → Rs)) := []
theorem r104 : ∀ vs, tw104 vs = bodyK C104 (lkS ST104) Try.f104 (sig 104) c104 (fillAs A104 0 vs) := fun vs => by kernel_rfl
theorem ok104 : ∀ xs q, opt (th104 xs) = some q → evalBody Try.prog sig (Gd G dep (dep 104)) KK 104 xs = some q := fun xs q h => body_ok Try.func104 (c := c104) rfl A104 tw104 (sums_of (C := C104) (t := ST104) trivial) r104 (by rw [← tpw104]; exact opt_gOf h)
noncomputable def C66 : Ctx := ⟨Try.prog, sig, Gd G dep (dep 66), (sig 66).keep, (sig 66).ord⟩
noncomputable def c66 : Code := Try.f66.body.getD .skip
def T66o4 : TSt := ⟨[.agg [.d (.i .i64), .d (.l)], .ptr 64 0, .d (.b), .any, .undef, .own 4608, .undef, .d (.b), .d (.l), .d (.i .i64), .d (.i .i64), .d (.b), .any, .d (.l), .d (.i .i64), .d (.i .i64), .any, .any], [(64, .box [.d (.i .i64), .d (.l)]), (4608, .row 3 1)]⟩
def X66o4e1 : TSt := ⟨[.agg [.d (.i .i64), .d (.l)], .ptr 64 0, .d (.b), .any, .undef, .own 4608, .ptr 448 0, .d (.b), .d (.l), .d (.i .i64), .d (.i .i64), .d (.b), .any, .d (.l), .d (.i .i64), .d (.i .i64), .d (.b), .d (.b)], [(64, .box [.d (.i .i64), .d (.l)]), (448, .box [.d (.i .i64), .d (.i .i64), .d (.i .i64), .d (.i .i64), .d (.i .i64), .d (.s), .d (.l), .d (.i .i64), .d (.i .i64)]), (4608, .row 3 1)]⟩
def X66o4e2 : TSt := ⟨[.agg [.d (.i .i64), .d (.l)], .ptr 64 0, .d (.b), .any, .undef, .own 4608, .undef, .d (.b), .d (.l), .d (.i .i64), .d (.i .i64), .d (.b), .any, .d (.l), .d (.i .i64), .d (.i .i64), .d (.b), .any], [(64, .box [.d (.i .i64), .d (.l)]), (4608, .row 3 1)]⟩
def L66o4 (m : Nat) (vs : List Vr) (K : Cont (List DV × List (List D))) : Rs := la66o4 tu63 tu99 tu100 tu101 tu102 tu103 tu104 (vI vs 0) (vL vs 1) (vB vs 2) (vB vs 4) (vL vs 5) (vI vs 6) (vI vs 7) (vB vs 8) (vL vs 10) (vI vs 11) (vI vs 15) (vL vs 16) (vL vs 17) (fun v120 v121 n122 b123 b124 n125 n126 n127 n128 n129 s130 l131 n132 n133 => K .ret (fillS X66o4e1 [.i (vI vs 0), .l (vL vs 1), .b (false), .v (v120), .b (vB vs 4), .l (vL vs 5), .i (vI vs 6), .i (vI vs 7), .b (vB vs 8), .v (v121), .l (vL vs 10), .i (vI vs 11), .i (n122), .b (b123), .b (b124), .i (vI vs 15), .l (vL vs 16), .i (n125), .i (n126), .i (n127), .i (n128), .i (n129), .s (s130), .l (l131), .i (n132), .i (n133), .l (vL vs 17)])) (fun v134 v135 n136 b137 v138 => K (.exit 2) (fillS X66o4e2 [.i (vI vs 0), .l (vL vs 1), .b (vB vs 2), .v (v134), .b (vB vs 4), .l (vL vs 5), .i (vI vs 6), .i (vI vs 7), .b (vB vs 8), .v (v135), .l (vL vs 10), .i (vI vs 11), .i (n136), .b (b137), .v (v138), .i (vI vs 15), .l (vL vs 16), .l (vL vs 17)])) m (vV vs 3) (vV vs 9) (vI vs 12) (vV vs 13) (vV vs 14)
def T66o1 : TSt := ⟨[.agg [.d (.i .i64), .d (.l)], .ptr 64 0, .d (.b), .any, .undef, .undef, .undef, .d (.b), .d (.l), .d (.i .i64), .d (.i .i64), .any, .any, .undef, .undef, .undef, .undef, .undef], [(64, .box [.d (.i .i64), .d (.l)])]⟩
def X66o1e1 : TSt := ⟨[.agg [.d (.i .i64), .d (.l)], .ptr 64 0, .d (.b), .d (.i .i64), .ptr 256 0, .undef, .undef, .d (.b), .d (.l), .d (.i .i64), .d (.i .i64), .d (.b), .d (.b), .undef, .undef, .undef, .undef, .undef], [(64, .box [.d (.i .i64), .d (.l)]), (256, .box [.d (.i .i64), .d (.i .i64), .d (.i .i64), .d (.i .i64), .d (.i .i64), .d (.s), .d (.l), .d (.i .i64), .d (.i .i64)])]⟩
def X66o1e2 : TSt := ⟨[.agg [.d (.i .i64), .d (.l)], .ptr 64 0, .d (.b), .any, .undef, .undef, .undef, .d (.b), .d (.l), .d (.i .i64), .d (.i .i64), .d (.b), .any, .undef, .undef, .undef, .undef, .undef], [(64, .box [.d (.i .i64), .d (.l)])]⟩
def L66o1 (m : Nat) (vs : List Vr) (K : Cont (List DV × List (List D))) : Rs := la66o1 tu63 tu99 tu100 tu101 tu102 tu103 tu104 (vI vs 0) (vL vs 1) (vB vs 2) (vB vs 4) (vL vs 5) (vI vs 6) (vI vs 10) (vL vs 11) (fun n36 b37 b38 n39 n40 n41 n42 n43 s44 l45 n46 n47 => K .ret (fillS X66o1e1 [.i (vI vs 0), .l (vL vs 1), .b (false), .i (n36), .b (vB vs 4), .l (vL vs 5), .i (vI vs 6), .i (n36), .b (b37), .b (b38), .i (vI vs 10), .l (vL vs 11), .i (n39), .i (n40), .i (n41), .i (n42), .i (n43), .s (s44), .l (l45), .i (n46), .i (n47)])) (fun v48 n49 b50 v51 => K (.exit 0) (fillS X66o1e2 [.i (vI vs 0), .l (vL vs 1), .b (vB vs 2), .v (v48), .b (vB vs 4), .l (vL vs 5), .i (vI vs 6), .i (n49), .b (b50), .v (v51), .i (vI vs 10), .l (vL vs 11)])) m (vV vs 3) (vI vs 7) (vV vs 8) (vV vs 9)
def ST66 : List (Nat × (St → Cont (List DV × List (List D)) → Rs)) := [(4, sumT T66o4 (L66o4 KK)), (1, sumT T66o1 (L66o1 KK))]
noncomputable def b66o4 : Code := match nodeAt c66 4 with | some (.loop a) => a | _ => .skip
noncomputable def b66o1 : Code := match nodeAt c66 1 with | some (.loop a) => a | _ => .skip
theorem q66o4 : ∀ m vs K, L66o4 (m + 1) vs K = denK C66 (lkS ST66) b66o4 5 (fillS T66o4 vs) (loopK T66o4 (L66o4 m) K) := fun m vs K => by kernel_rfl
theorem o66o4 : SumOk C66 KK (sumT T66o4 (L66o4 KK)) (.loop b66o4) := loop_ok T66o4 L66o4 (sums_of (t := ST66) ⟨fun _ _ h => absurd h (by decide), fun _ _ h => absurd h (by decide), trivial⟩) (fun _ _ => rfl) q66o4
theorem q66o1 : ∀ m vs K, L66o1 (m + 1) vs K = denK C66 (lkS ST66) b66o1 2 (fillS T66o1 vs) (loopK T66o1 (L66o1 m) K) := fun m vs K => by kernel_rfl
theorem o66o1 : SumOk C66 KK (sumT T66o1 (L66o1 KK)) (.loop b66o1) := loop_ok T66o1 L66o1 (sums_of (t := ST66) ⟨sum_out (by kernel_rfl), fun _ _ h => absurd h (by decide), trivial⟩) (fun _ _ => rfl) q66o1
theorem r66 : ∀ vs, tw66 vs = bodyK C66 (lkS ST66) Try.f66 (sig 66) c66 (fillAs A66 0 vs) := fun vs => by kernel_rfl
theorem ok66 : ∀ xs q, opt (th66 xs) = some q → evalBody Try.prog sig (Gd G dep (dep 66)) KK 66 xs = some q := fun xs q h => body_ok Try.func66 (c := c66) rfl A66 tw66 (sums_of (C := C66) (t := ST66) ⟨sum_in (c' := .loop b66o4) (by kernel_rfl) (o66o4), sum_in (c' := .loop b66o1) (by kernel_rfl) (o66o1), trivial⟩) r66 (by rw [← tpw66]; exact opt_gOf h)
noncomputable def C25 : Ctx := ⟨Try.prog, sig, Gd G dep (dep 25), (sig 25).keep, (sig 25).ord⟩
noncomputable def c25 : Code := Try.f25.body.getD .skip
def T25o0 : TSt := ⟨[.agg [.d (.i .i64), .d (.l), .d (.i .i64), .d (.l), .d (.l)], .ptr 64 0, .d (.b), .any, .undef, .d (.l), .d (.i .i64), .d (.i .i64), .any, .any], [(64, .box [.d (.i .i64), .d (.l), .d (.i .i64), .d (.l), .d (.l)])]⟩
def X25o0e1 : TSt := ⟨[.agg [.d (.i .i64), .d (.l), .d (.i .i64), .d (.l), .d (.l)], .ptr 64 0, .d (.b), .d (.i .i64), .ptr 256 0, .d (.l), .d (.i .i64), .d (.i .i64), .d (.b), .d (.b)], [(64, .box [.d (.i .i64), .d (.l), .d (.i .i64), .d (.l), .d (.l)]), (256, .box [.d (.i .i64), .d (.i .i64), .d (.i .i64), .d (.i .i64), .d (.s)])]⟩
def X25o0e2 : TSt := ⟨[.agg [.d (.i .i64), .d (.l), .d (.i .i64), .d (.l), .d (.l)], .ptr 64 0, .d (.b), .any, .undef, .d (.l), .d (.i .i64), .d (.i .i64), .d (.b), .any], [(64, .box [.d (.i .i64), .d (.l), .d (.i .i64), .d (.l), .d (.l)])]⟩
def L25o0 (m : Nat) (vs : List Vr) (K : Cont (List DV × List (List D))) : Rs := la25o0 tu63 tu64 tu65 tu66 (vI vs 0) (vL vs 1) (vI vs 2) (vL vs 3) (vL vs 4) (vB vs 5) (vL vs 7) (vI vs 8) (vI vs 12) (vL vs 13) (vI vs 14) (vL vs 15) (vL vs 16) (fun n54 b55 b56 n57 n58 n59 n60 s61 => K .ret (fillS X25o0e1 [.i (vI vs 0), .l (vL vs 1), .i (vI vs 2), .l (vL vs 3), .l (vL vs 4), .b (false), .i (n54), .l (vL vs 7), .i (vI vs 8), .i (n54), .b (b55), .b (b56), .i (vI vs 12), .l (vL vs 13), .i (vI vs 14), .l (vL vs 15), .l (vL vs 16), .i (n57), .i (n58), .i (n59), .i (n60), .s (s61)])) (fun v62 n63 b64 v65 => K (.exit 0) (fillS X25o0e2 [.i (vI vs 0), .l (vL vs 1), .i (vI vs 2), .l (vL vs 3), .l (vL vs 4), .b (vB vs 5), .v (v62), .l (vL vs 7), .i (vI vs 8), .i (n63), .b (b64), .v (v65), .i (vI vs 12), .l (vL vs 13), .i (vI vs 14), .l (vL vs 15), .l (vL vs 16)])) m (vV vs 6) (vI vs 9) (vV vs 10) (vV vs 11)
def ST25 : List (Nat × (St → Cont (List DV × List (List D)) → Rs)) := [(0, sumT T25o0 (L25o0 KK))]
noncomputable def b25o0 : Code := match nodeAt c25 0 with | some (.loop a) => a | _ => .skip
theorem q25o0 : ∀ m vs K, L25o0 (m + 1) vs K = denK C25 (lkS ST25) b25o0 1 (fillS T25o0 vs) (loopK T25o0 (L25o0 m) K) := fun m vs K => by kernel_rfl
theorem o25o0 : SumOk C25 KK (sumT T25o0 (L25o0 KK)) (.loop b25o0) := loop_ok T25o0 L25o0 (sums_of (t := ST25) ⟨fun _ _ h => absurd h (by decide), trivial⟩) (fun _ _ => rfl) q25o0
theorem r25 : ∀ vs, tw25 vs = bodyK C25 (lkS ST25) Try.f25 (sig 25) c25 (fillAs A25 0 vs) := fun vs => by kernel_rfl
theorem ok25 : ∀ xs q, opt (th25 xs) = some q → evalBody Try.prog sig (Gd G dep (dep 25)) KK 25 xs = some q := fun xs q h => body_ok Try.func25 (c := c25) rfl A25 tw25 (sums_of (C := C25) (t := ST25) ⟨sum_in (c' := .loop b25o0) (by kernel_rfl) (o25o0), trivial⟩) r25 (by rw [← tpw25]; exact opt_gOf h)
noncomputable def C29 : Ctx := ⟨Try.prog, sig, Gd G dep (dep 29), (sig 29).keep, (sig 29).ord⟩
noncomputable def c29 : Code := Try.f29.body.getD .skip
def T29o0 : TSt := ⟨[.d (.l), .d (.b), .undef, .d (.l), .d (.i .i64), .d (.i .i64), .any, .any], []⟩
def X29o0e1 : TSt := ⟨[.d (.l), .d (.b), .ptr 256 0, .d (.l), .d (.i .i64), .d (.i .i64), .d (.b), .d (.b)], [(256, .box [.d (.i .i64), .d (.l), .d (.i .i64), .d (.l), .d (.l)])]⟩
def X29o0e2 : TSt := ⟨[.d (.l), .d (.b), .undef, .d (.l), .d (.i .i64), .d (.i .i64), .d (.b), .any], []⟩
def L29o0 (m : Nat) (vs : List Vr) (K : Cont (List DV × List (List D))) : Rs := la29o0 tu25 (vL vs 0) (vB vs 1) (vL vs 2) (vI vs 3) (fun n21 b22 b23 n24 l25 n26 l27 l28 => K .ret (fillS X29o0e1 [.l (vL vs 0), .b (false), .l (vL vs 2), .i (vI vs 3), .i (n21), .b (b22), .b (b23), .i (n24), .l (l25), .i (n26), .l (l27), .l (l28)])) (fun n29 b30 v31 => K (.exit 0) (fillS X29o0e2 [.l (vL vs 0), .b (vB vs 1), .l (vL vs 2), .i (vI vs 3), .i (n29), .b (b30), .v (v31)])) m (vI vs 4) (vV vs 5) (vV vs 6)
def ST29 : List (Nat × (St → Cont (List DV × List (List D)) → Rs)) := [(0, sumT T29o0 (L29o0 KK))]
noncomputable def b29o0 : Code := match nodeAt c29 0 with | some (.loop a) => a | _ => .skip
theorem q29o0 : ∀ m vs K, L29o0 (m + 1) vs K = denK C29 (lkS ST29) b29o0 1 (fillS T29o0 vs) (loopK T29o0 (L29o0 m) K) := fun m vs K => by kernel_rfl
theorem o29o0 : SumOk C29 KK (sumT T29o0 (L29o0 KK)) (.loop b29o0) := loop_ok T29o0 L29o0 (sums_of (t := ST29) ⟨fun _ _ h => absurd h (by decide), trivial⟩) (fun _ _ => rfl) q29o0
theorem r29 : ∀ vs, tw29 vs = bodyK C29 (lkS ST29) Try.f29 (sig 29) c29 (fillAs A29 0 vs) := fun vs => by kernel_rfl
theorem ok29 : ∀ xs q, opt (th29 xs) = some q → evalBody Try.prog sig (Gd G dep (dep 29)) KK 29 xs = some q := fun xs q h => body_ok Try.func29 (c := c29) rfl A29 tw29 (sums_of (C := C29) (t := ST29) ⟨sum_in (c' := .loop b29o0) (by kernel_rfl) (o29o0), trivial⟩) r29 (by rw [← tpw29]; exact opt_gOf h)
noncomputable def C143 : Ctx := ⟨Try.prog, sig, Gd G dep (dep 143), (sig 143).keep, (sig 143).ord⟩
noncomputable def c143 : Code := Try.f143.body.getD .skip
def ST143 : List (Nat × (St → Cont (List DV × List (List D)) → Rs)) := []
theorem r143 : ∀ vs, tw143 vs = bodyK C143 (lkS ST143) Try.f143 (sig 143) c143 (fillAs A143 0 vs) := fun vs => by kernel_rfl
theorem ok143 : ∀ xs q, opt (th143 xs) = some q → evalBody Try.prog sig (Gd G dep (dep 143)) KK 143 xs = some q := fun xs q h => body_ok Try.func143 (c := c143) rfl A143 tw143 (sums_of (C := C143) (t := ST143) trivial) r143 (by rw [← tpw143]; exact opt_gOf h)
noncomputable def C137 : Ctx := ⟨Try.prog, sig, Gd G dep (dep 137), (sig 137).keep, (sig 137).ord⟩
noncomputable def c137 : Code := Try.f137.body.getD .skip
def T137o1 : TSt := ⟨[.d (.l), .d (.l), .d (.b), .d (.i .i64), .d (.b), .any, .any], []⟩
def X137o1e1 : TSt := ⟨[.d (.l), .d (.l), .d (.b), .d (.i .i64), .d (.b), .d (.b), .d (.b)], []⟩
def X137o1e2 : TSt := ⟨[.d (.l), .d (.l), .d (.b), .d (.i .i64), .d (.b), .d (.b), .any], []⟩
def L137o1 (m : Nat) (vs : List Vr) (K : Cont (List DV × List (List D))) : Rs := la137o1 tu143 (vL vs 0) (vL vs 1) (vB vs 2) (vB vs 4) (fun n22 b23 b24 => K .ret (fillS X137o1e1 [.l (vL vs 0), .l (vL vs 1), .b (false), .i (n22), .b (vB vs 4), .b (b23), .b (b24)])) (fun n25 b26 v27 => K (.exit 0) (fillS X137o1e2 [.l (vL vs 0), .l (vL vs 1), .b (vB vs 2), .i (n25), .b (vB vs 4), .b (b26), .v (v27)])) m (vI vs 3) (vV vs 5) (vV vs 6)
def ST137 : List (Nat × (St → Cont (List DV × List (List D)) → Rs)) := [(1, sumT T137o1 (L137o1 KK))]
noncomputable def b137o1 : Code := match nodeAt c137 1 with | some (.loop a) => a | _ => .skip
theorem q137o1 : ∀ m vs K, L137o1 (m + 1) vs K = denK C137 (lkS ST137) b137o1 2 (fillS T137o1 vs) (loopK T137o1 (L137o1 m) K) := fun m vs K => by kernel_rfl
theorem o137o1 : SumOk C137 KK (sumT T137o1 (L137o1 KK)) (.loop b137o1) := loop_ok T137o1 L137o1 (sums_of (t := ST137) ⟨fun _ _ h => absurd h (by decide), trivial⟩) (fun _ _ => rfl) q137o1
theorem r137 : ∀ vs, tw137 vs = bodyK C137 (lkS ST137) Try.f137 (sig 137) c137 (fillAs A137 0 vs) := fun vs => by kernel_rfl
theorem ok137 : ∀ xs q, opt (th137 xs) = some q → evalBody Try.prog sig (Gd G dep (dep 137)) KK 137 xs = some q := fun xs q h => body_ok Try.func137 (c := c137) rfl A137 tw137 (sums_of (C := C137) (t := ST137) ⟨sum_in (c' := .loop b137o1) (by kernel_rfl) (o137o1), trivial⟩) r137 (by rw [← tpw137]; exact opt_gOf h)
noncomputable def C120 : Ctx := ⟨Try.prog, sig, Gd G dep (dep 120), (sig 120).keep, (sig 120).ord⟩
noncomputable def c120 : Code := Try.f120.body.getD .skip
def ST120 : List (Nat × (St → Cont (List DV × List (List D)) → Rs)) := []
theorem r120 : ∀ vs, tw120 vs = bodyK C120 (lkS ST120) Try.f120 (sig 120) c120 (fillAs A120 0 vs) := fun vs => by kernel_rfl
theorem ok120 : ∀ xs q, opt (th120 xs) = some q → evalBody Try.prog sig (Gd G dep (dep 120)) KK 120 xs = some q := fun xs q h => body_ok Try.func120 (c := c120) rfl A120 tw120 (sums_of (C := C120) (t := ST120) trivial) r120 (by rw [← tpw120]; exact opt_gOf h)
noncomputable def C83 : Ctx := ⟨Try.prog, sig, Gd G dep (dep 83), (sig 83).keep, (sig 83).ord⟩
noncomputable def c83 : Code := Try.f83.body.getD .skip
def T83o1 : TSt := ⟨[.d (.l), .d (.l), .d (.b), .d (.i .i64), .d (.b), .any, .any], []⟩
def X83o1e1 : TSt := ⟨[.d (.l), .d (.l), .d (.b), .d (.i .i64), .d (.b), .d (.b), .d (.b)], []⟩
def X83o1e2 : TSt := ⟨[.d (.l), .d (.l), .d (.b), .d (.i .i64), .d (.b), .d (.b), .any], []⟩
def L83o1 (m : Nat) (vs : List Vr) (K : Cont (List DV × List (List D))) : Rs := la83o1 tu120 (vL vs 0) (vL vs 1) (vB vs 2) (vB vs 4) (fun n22 b23 b24 => K .ret (fillS X83o1e1 [.l (vL vs 0), .l (vL vs 1), .b (false), .i (n22), .b (vB vs 4), .b (b23), .b (b24)])) (fun n25 b26 v27 => K (.exit 0) (fillS X83o1e2 [.l (vL vs 0), .l (vL vs 1), .b (vB vs 2), .i (n25), .b (vB vs 4), .b (b26), .v (v27)])) m (vI vs 3) (vV vs 5) (vV vs 6)
def ST83 : List (Nat × (St → Cont (List DV × List (List D)) → Rs)) := [(1, sumT T83o1 (L83o1 KK))]
noncomputable def b83o1 : Code := match nodeAt c83 1 with | some (.loop a) => a | _ => .skip
theorem q83o1 : ∀ m vs K, L83o1 (m + 1) vs K = denK C83 (lkS ST83) b83o1 2 (fillS T83o1 vs) (loopK T83o1 (L83o1 m) K) := fun m vs K => by kernel_rfl
theorem o83o1 : SumOk C83 KK (sumT T83o1 (L83o1 KK)) (.loop b83o1) := loop_ok T83o1 L83o1 (sums_of (t := ST83) ⟨fun _ _ h => absurd h (by decide), trivial⟩) (fun _ _ => rfl) q83o1
theorem r83 : ∀ vs, tw83 vs = bodyK C83 (lkS ST83) Try.f83 (sig 83) c83 (fillAs A83 0 vs) := fun vs => by kernel_rfl
theorem ok83 : ∀ xs q, opt (th83 xs) = some q → evalBody Try.prog sig (Gd G dep (dep 83)) KK 83 xs = some q := fun xs q h => body_ok Try.func83 (c := c83) rfl A83 tw83 (sums_of (C := C83) (t := ST83) ⟨sum_in (c' := .loop b83o1) (by kernel_rfl) (o83o1), trivial⟩) r83 (by rw [← tpw83]; exact opt_gOf h)
noncomputable def C42 : Ctx := ⟨Try.prog, sig, Gd G dep (dep 42), (sig 42).keep, (sig 42).ord⟩
noncomputable def c42 : Code := Try.f42.body.getD .skip
def ST42 : List (Nat × (St → Cont (List DV × List (List D)) → Rs)) := []
theorem r42 : ∀ vs, tw42 vs = bodyK C42 (lkS ST42) Try.f42 (sig 42) c42 (fillAs A42 0 vs) := fun vs => by kernel_rfl
theorem ok42 : ∀ xs q, opt (th42 xs) = some q → evalBody Try.prog sig (Gd G dep (dep 42)) KK 42 xs = some q := fun xs q h => body_ok Try.func42 (c := c42) rfl A42 tw42 (sums_of (C := C42) (t := ST42) trivial) r42 (by rw [← tpw42]; exact opt_gOf h)
noncomputable def C84 : Ctx := ⟨Try.prog, sig, Gd G dep (dep 84), (sig 84).keep, (sig 84).ord⟩
noncomputable def c84 : Code := Try.f84.body.getD .skip
def ST84 : List (Nat × (St → Cont (List DV × List (List D)) → Rs)) := []
theorem r84 : ∀ vs, tw84 vs = bodyK C84 (lkS ST84) Try.f84 (sig 84) c84 (fillAs A84 0 vs) := fun vs => by kernel_rfl
theorem ok84 : ∀ xs q, opt (th84 xs) = some q → evalBody Try.prog sig (Gd G dep (dep 84)) KK 84 xs = some q := fun xs q h => body_ok Try.func84 (c := c84) rfl A84 tw84 (sums_of (C := C84) (t := ST84) trivial) r84 (by rw [← tpw84]; exact opt_gOf h)
noncomputable def C43 : Ctx := ⟨Try.prog, sig, Gd G dep (dep 43), (sig 43).keep, (sig 43).ord⟩
noncomputable def c43 : Code := Try.f43.body.getD .skip
def T43o1 : TSt := ⟨[.d (.l), .d (.l), .d (.b), .d (.i .i64), .d (.b), .any, .any], []⟩
def X43o1e1 : TSt := ⟨[.d (.l), .d (.l), .d (.b), .d (.i .i64), .d (.b), .d (.b), .d (.b)], []⟩
def X43o1e2 : TSt := ⟨[.d (.l), .d (.l), .d (.b), .d (.i .i64), .d (.b), .d (.b), .any], []⟩
def L43o1 (m : Nat) (vs : List Vr) (K : Cont (List DV × List (List D))) : Rs := la43o1 tu84 (vL vs 0) (vL vs 1) (vB vs 2) (vB vs 4) (fun n22 b23 b24 => K .ret (fillS X43o1e1 [.l (vL vs 0), .l (vL vs 1), .b (false), .i (n22), .b (vB vs 4), .b (b23), .b (b24)])) (fun n25 b26 v27 => K (.exit 0) (fillS X43o1e2 [.l (vL vs 0), .l (vL vs 1), .b (vB vs 2), .i (n25), .b (vB vs 4), .b (b26), .v (v27)])) m (vI vs 3) (vV vs 5) (vV vs 6)
def ST43 : List (Nat × (St → Cont (List DV × List (List D)) → Rs)) := [(1, sumT T43o1 (L43o1 KK))]
noncomputable def b43o1 : Code := match nodeAt c43 1 with | some (.loop a) => a | _ => .skip
theorem q43o1 : ∀ m vs K, L43o1 (m + 1) vs K = denK C43 (lkS ST43) b43o1 2 (fillS T43o1 vs) (loopK T43o1 (L43o1 m) K) := fun m vs K => by kernel_rfl
theorem o43o1 : SumOk C43 KK (sumT T43o1 (L43o1 KK)) (.loop b43o1) := loop_ok T43o1 L43o1 (sums_of (t := ST43) ⟨fun _ _ h => absurd h (by decide), trivial⟩) (fun _ _ => rfl) q43o1
theorem r43 : ∀ vs, tw43 vs = bodyK C43 (lkS ST43) Try.f43 (sig 43) c43 (fillAs A43 0 vs) := fun vs => by kernel_rfl
theorem ok43 : ∀ xs q, opt (th43 xs) = some q → evalBody Try.prog sig (Gd G dep (dep 43)) KK 43 xs = some q := fun xs q h => body_ok Try.func43 (c := c43) rfl A43 tw43 (sums_of (C := C43) (t := ST43) ⟨sum_in (c' := .loop b43o1) (by kernel_rfl) (o43o1), trivial⟩) r43 (by rw [← tpw43]; exact opt_gOf h)
noncomputable def C121 : Ctx := ⟨Try.prog, sig, Gd G dep (dep 121), (sig 121).keep, (sig 121).ord⟩
noncomputable def c121 : Code := Try.f121.body.getD .skip
def ST121 : List (Nat × (St → Cont (List DV × List (List D)) → Rs)) := []
theorem r121 : ∀ vs, tw121 vs = bodyK C121 (lkS ST121) Try.f121 (sig 121) c121 (fillAs A121 0 vs) := fun vs => by kernel_rfl
theorem ok121 : ∀ xs q, opt (th121 xs) = some q → evalBody Try.prog sig (Gd G dep (dep 121)) KK 121 xs = some q := fun xs q h => body_ok Try.func121 (c := c121) rfl A121 tw121 (sums_of (C := C121) (t := ST121) trivial) r121 (by rw [← tpw121]; exact opt_gOf h)
noncomputable def C85 : Ctx := ⟨Try.prog, sig, Gd G dep (dep 85), (sig 85).keep, (sig 85).ord⟩
noncomputable def c85 : Code := Try.f85.body.getD .skip
def ST85 : List (Nat × (St → Cont (List DV × List (List D)) → Rs)) := []
theorem r85 : ∀ vs, tw85 vs = bodyK C85 (lkS ST85) Try.f85 (sig 85) c85 (fillAs A85 0 vs) := fun vs => by kernel_rfl
theorem ok85 : ∀ xs q, opt (th85 xs) = some q → evalBody Try.prog sig (Gd G dep (dep 85)) KK 85 xs = some q := fun xs q h => body_ok Try.func85 (c := c85) rfl A85 tw85 (sums_of (C := C85) (t := ST85) trivial) r85 (by rw [← tpw85]; exact opt_gOf h)
noncomputable def C44 : Ctx := ⟨Try.prog, sig, Gd G dep (dep 44), (sig 44).keep, (sig 44).ord⟩
noncomputable def c44 : Code := Try.f44.body.getD .skip
def T44o1 : TSt := ⟨[.d (.l), .d (.l), .d (.b), .d (.i .i64), .d (.b), .any, .any], []⟩
def X44o1e1 : TSt := ⟨[.d (.l), .d (.l), .d (.b), .d (.i .i64), .d (.b), .d (.b), .d (.b)], []⟩
def X44o1e2 : TSt := ⟨[.d (.l), .d (.l), .d (.b), .d (.i .i64), .d (.b), .d (.b), .any], []⟩
def L44o1 (m : Nat) (vs : List Vr) (K : Cont (List DV × List (List D))) : Rs := la44o1 tu85 (vL vs 0) (vL vs 1) (vB vs 2) (vB vs 4) (fun n22 b23 b24 => K .ret (fillS X44o1e1 [.l (vL vs 0), .l (vL vs 1), .b (false), .i (n22), .b (vB vs 4), .b (b23), .b (b24)])) (fun n25 b26 v27 => K (.exit 0) (fillS X44o1e2 [.l (vL vs 0), .l (vL vs 1), .b (vB vs 2), .i (n25), .b (vB vs 4), .b (b26), .v (v27)])) m (vI vs 3) (vV vs 5) (vV vs 6)
def ST44 : List (Nat × (St → Cont (List DV × List (List D)) → Rs)) := [(1, sumT T44o1 (L44o1 KK))]
noncomputable def b44o1 : Code := match nodeAt c44 1 with | some (.loop a) => a | _ => .skip
theorem q44o1 : ∀ m vs K, L44o1 (m + 1) vs K = denK C44 (lkS ST44) b44o1 2 (fillS T44o1 vs) (loopK T44o1 (L44o1 m) K) := fun m vs K => by kernel_rfl
theorem o44o1 : SumOk C44 KK (sumT T44o1 (L44o1 KK)) (.loop b44o1) := loop_ok T44o1 L44o1 (sums_of (t := ST44) ⟨fun _ _ h => absurd h (by decide), trivial⟩) (fun _ _ => rfl) q44o1
theorem r44 : ∀ vs, tw44 vs = bodyK C44 (lkS ST44) Try.f44 (sig 44) c44 (fillAs A44 0 vs) := fun vs => by kernel_rfl
theorem ok44 : ∀ xs q, opt (th44 xs) = some q → evalBody Try.prog sig (Gd G dep (dep 44)) KK 44 xs = some q := fun xs q h => body_ok Try.func44 (c := c44) rfl A44 tw44 (sums_of (C := C44) (t := ST44) ⟨sum_in (c' := .loop b44o1) (by kernel_rfl) (o44o1), trivial⟩) r44 (by rw [← tpw44]; exact opt_gOf h)
noncomputable def C14 : Ctx := ⟨Try.prog, sig, Gd G dep (dep 14), (sig 14).keep, (sig 14).ord⟩
noncomputable def c14 : Code := Try.f14.body.getD .skip
def ST14 : List (Nat × (St → Cont (List DV × List (List D)) → Rs)) := []
theorem r14 : ∀ vs, tw14 vs = bodyK C14 (lkS ST14) Try.f14 (sig 14) c14 (fillAs A14 0 vs) := fun vs => by kernel_rfl
theorem ok14 : ∀ xs q, opt (th14 xs) = some q → evalBody Try.prog sig (Gd G dep (dep 14)) KK 14 xs = some q := fun xs q h => body_ok Try.func14 (c := c14) rfl A14 tw14 (sums_of (C := C14) (t := ST14) trivial) r14 (by rw [← tpw14]; exact opt_gOf h)
noncomputable def C19 : Ctx := ⟨Try.prog, sig, Gd G dep (dep 19), (sig 19).keep, (sig 19).ord⟩
noncomputable def c19 : Code := Try.f19.body.getD .skip
def T19o1 : TSt := ⟨[.d (.l), .d (.l), .d (.b), .d (.i .i64), .d (.b), .any, .any], []⟩
def X19o1e1 : TSt := ⟨[.d (.l), .d (.l), .d (.b), .d (.i .i64), .d (.b), .d (.b), .d (.b)], []⟩
def X19o1e2 : TSt := ⟨[.d (.l), .d (.l), .d (.b), .d (.i .i64), .d (.b), .d (.b), .any], []⟩
def L19o1 (m : Nat) (vs : List Vr) (K : Cont (List DV × List (List D))) : Rs := la19o1 tu14 (vL vs 0) (vL vs 1) (vB vs 2) (vB vs 4) (fun n22 b23 b24 => K .ret (fillS X19o1e1 [.l (vL vs 0), .l (vL vs 1), .b (false), .i (n22), .b (vB vs 4), .b (b23), .b (b24)])) (fun n25 b26 v27 => K (.exit 0) (fillS X19o1e2 [.l (vL vs 0), .l (vL vs 1), .b (vB vs 2), .i (n25), .b (vB vs 4), .b (b26), .v (v27)])) m (vI vs 3) (vV vs 5) (vV vs 6)
def ST19 : List (Nat × (St → Cont (List DV × List (List D)) → Rs)) := [(1, sumT T19o1 (L19o1 KK))]
noncomputable def b19o1 : Code := match nodeAt c19 1 with | some (.loop a) => a | _ => .skip
theorem q19o1 : ∀ m vs K, L19o1 (m + 1) vs K = denK C19 (lkS ST19) b19o1 2 (fillS T19o1 vs) (loopK T19o1 (L19o1 m) K) := fun m vs K => by kernel_rfl
theorem o19o1 : SumOk C19 KK (sumT T19o1 (L19o1 KK)) (.loop b19o1) := loop_ok T19o1 L19o1 (sums_of (t := ST19) ⟨fun _ _ h => absurd h (by decide), trivial⟩) (fun _ _ => rfl) q19o1
theorem r19 : ∀ vs, tw19 vs = bodyK C19 (lkS ST19) Try.f19 (sig 19) c19 (fillAs A19 0 vs) := fun vs => by kernel_rfl
theorem ok19 : ∀ xs q, opt (th19 xs) = some q → evalBody Try.prog sig (Gd G dep (dep 19)) KK 19 xs = some q := fun xs q h => body_ok Try.func19 (c := c19) rfl A19 tw19 (sums_of (C := C19) (t := ST19) ⟨sum_in (c' := .loop b19o1) (by kernel_rfl) (o19o1), trivial⟩) r19 (by rw [← tpw19]; exact opt_gOf h)
noncomputable def C6 : Ctx := ⟨Try.prog, sig, Gd G dep (dep 6), (sig 6).keep, (sig 6).ord⟩
noncomputable def c6 : Code := Try.f6.body.getD .skip
def ST6 : List (Nat × (St → Cont (List DV × List (List D)) → Rs)) := []
theorem r6 : ∀ vs, tw6 vs = bodyK C6 (lkS ST6) Try.f6 (sig 6) c6 (fillAs A6 0 vs) := fun vs => by kernel_rfl
theorem ok6 : ∀ xs q, opt (th6 xs) = some q → evalBody Try.prog sig (Gd G dep (dep 6)) KK 6 xs = some q := fun xs q h => body_ok Try.func6 (c := c6) rfl A6 tw6 (sums_of (C := C6) (t := ST6) trivial) r6 (by rw [← tpw6]; exact opt_gOf h)
theorem fn_ok : ∀ f ∈ [144, 138, 122, 89, 53, 54, 123, 90, 55, 22, 26, 145, 140, 128, 96, 60, 97, 61, 129, 98, 62, 24, 28, 57, 139, 124, 125, 126, 91, 92, 93, 94, 127, 95, 56, 58, 59, 23, 27, 63, 64, 65, 141, 130, 142, 132, 131, 99, 133, 101, 100, 102, 103, 135, 105, 134, 104, 66, 25, 29, 143, 137, 120, 83, 42, 84, 43, 121, 85, 44, 14, 19, 6], FnOk Try.prog sig f := fun f h => fnOk_of (List.all_eq_true.1 (show [144, 138, 122, 89, 53, 54, 123, 90, 55, 22, 26, 145, 140, 128, 96, 60, 97, 61, 129, 98, 62, 24, 28, 57, 139, 124, 125, 126, 91, 92, 93, 94, 127, 95, 56, 58, 59, 23, 27, 63, 64, 65, 141, 130, 142, 132, 131, 99, 133, 101, 100, 102, 103, 135, 105, 134, 104, 66, 25, 29, 143, 137, 120, 83, 42, 84, 43, 121, 85, 44, 14, 19, 6].all (fnOkB Try.prog sig) = true by kernel_rfl) f h)
theorem all_ok : AllG (fun f xs q => FnOk Try.prog sig f ∧ evalBody Try.prog sig (Gd G dep (dep f)) KK f xs = some q) gT :=
  ⟨fun xs q h => ⟨fn_ok 144 (by simp), ok144 xs q h⟩, fun xs q h => ⟨fn_ok 138 (by simp), ok138 xs q h⟩, fun xs q h => ⟨fn_ok 122 (by simp), ok122 xs q h⟩, fun xs q h => ⟨fn_ok 89 (by simp), ok89 xs q h⟩, fun xs q h => ⟨fn_ok 53 (by simp), ok53 xs q h⟩, fun xs q h => ⟨fn_ok 54 (by simp), ok54 xs q h⟩, fun xs q h => ⟨fn_ok 123 (by simp), ok123 xs q h⟩, fun xs q h => ⟨fn_ok 90 (by simp), ok90 xs q h⟩, fun xs q h => ⟨fn_ok 55 (by simp), ok55 xs q h⟩, fun xs q h => ⟨fn_ok 22 (by simp), ok22 xs q h⟩, fun xs q h => ⟨fn_ok 26 (by simp), ok26 xs q h⟩, fun xs q h => ⟨fn_ok 145 (by simp), ok145 xs q h⟩, fun xs q h => ⟨fn_ok 140 (by simp), ok140 xs q h⟩, fun xs q h => ⟨fn_ok 128 (by simp), ok128 xs q h⟩, fun xs q h => ⟨fn_ok 96 (by simp), ok96 xs q h⟩, fun xs q h => ⟨fn_ok 60 (by simp), ok60 xs q h⟩, fun xs q h => ⟨fn_ok 97 (by simp), ok97 xs q h⟩, fun xs q h => ⟨fn_ok 61 (by simp), ok61 xs q h⟩, fun xs q h => ⟨fn_ok 129 (by simp), ok129 xs q h⟩, fun xs q h => ⟨fn_ok 98 (by simp), ok98 xs q h⟩, fun xs q h => ⟨fn_ok 62 (by simp), ok62 xs q h⟩, fun xs q h => ⟨fn_ok 24 (by simp), ok24 xs q h⟩, fun xs q h => ⟨fn_ok 28 (by simp), ok28 xs q h⟩, fun xs q h => ⟨fn_ok 57 (by simp), ok57 xs q h⟩, fun xs q h => ⟨fn_ok 139 (by simp), ok139 xs q h⟩, fun xs q h => ⟨fn_ok 124 (by simp), ok124 xs q h⟩, fun xs q h => ⟨fn_ok 125 (by simp), ok125 xs q h⟩, fun xs q h => ⟨fn_ok 126 (by simp), ok126 xs q h⟩, fun xs q h => ⟨fn_ok 91 (by simp), ok91 xs q h⟩, fun xs q h => ⟨fn_ok 92 (by simp), ok92 xs q h⟩, fun xs q h => ⟨fn_ok 93 (by simp), ok93 xs q h⟩, fun xs q h => ⟨fn_ok 94 (by simp), ok94 xs q h⟩, fun xs q h => ⟨fn_ok 127 (by simp), ok127 xs q h⟩, fun xs q h => ⟨fn_ok 95 (by simp), ok95 xs q h⟩, fun xs q h => ⟨fn_ok 56 (by simp), ok56 xs q h⟩, fun xs q h => ⟨fn_ok 58 (by simp), ok58 xs q h⟩, fun xs q h => ⟨fn_ok 59 (by simp), ok59 xs q h⟩, fun xs q h => ⟨fn_ok 23 (by simp), ok23 xs q h⟩, fun xs q h => ⟨fn_ok 27 (by simp), ok27 xs q h⟩, fun xs q h => ⟨fn_ok 63 (by simp), ok63 xs q h⟩, fun xs q h => ⟨fn_ok 64 (by simp), ok64 xs q h⟩, fun xs q h => ⟨fn_ok 65 (by simp), ok65 xs q h⟩, fun xs q h => ⟨fn_ok 141 (by simp), ok141 xs q h⟩, fun xs q h => ⟨fn_ok 130 (by simp), ok130 xs q h⟩, fun xs q h => ⟨fn_ok 142 (by simp), ok142 xs q h⟩, fun xs q h => ⟨fn_ok 132 (by simp), ok132 xs q h⟩, fun xs q h => ⟨fn_ok 131 (by simp), ok131 xs q h⟩, fun xs q h => ⟨fn_ok 99 (by simp), ok99 xs q h⟩, fun xs q h => ⟨fn_ok 133 (by simp), ok133 xs q h⟩, fun xs q h => ⟨fn_ok 101 (by simp), ok101 xs q h⟩, fun xs q h => ⟨fn_ok 100 (by simp), ok100 xs q h⟩, fun xs q h => ⟨fn_ok 102 (by simp), ok102 xs q h⟩, fun xs q h => ⟨fn_ok 103 (by simp), ok103 xs q h⟩, fun xs q h => ⟨fn_ok 135 (by simp), ok135 xs q h⟩, fun xs q h => ⟨fn_ok 105 (by simp), ok105 xs q h⟩, fun xs q h => ⟨fn_ok 134 (by simp), ok134 xs q h⟩, fun xs q h => ⟨fn_ok 104 (by simp), ok104 xs q h⟩, fun xs q h => ⟨fn_ok 66 (by simp), ok66 xs q h⟩, fun xs q h => ⟨fn_ok 25 (by simp), ok25 xs q h⟩, fun xs q h => ⟨fn_ok 29 (by simp), ok29 xs q h⟩, fun xs q h => ⟨fn_ok 143 (by simp), ok143 xs q h⟩, fun xs q h => ⟨fn_ok 137 (by simp), ok137 xs q h⟩, fun xs q h => ⟨fn_ok 120 (by simp), ok120 xs q h⟩, fun xs q h => ⟨fn_ok 83 (by simp), ok83 xs q h⟩, fun xs q h => ⟨fn_ok 42 (by simp), ok42 xs q h⟩, fun xs q h => ⟨fn_ok 84 (by simp), ok84 xs q h⟩, fun xs q h => ⟨fn_ok 43 (by simp), ok43 xs q h⟩, fun xs q h => ⟨fn_ok 121 (by simp), ok121 xs q h⟩, fun xs q h => ⟨fn_ok 85 (by simp), ok85 xs q h⟩, fun xs q h => ⟨fn_ok 44 (by simp), ok44 xs q h⟩, fun xs q h => ⟨fn_ok 14 (by simp), ok14 xs q h⟩, fun xs q h => ⟨fn_ok 19 (by simp), ok19 xs q h⟩, fun xs q h => ⟨fn_ok 6 (by simp), ok6 xs q h⟩, trivial⟩
theorem G_ok (f : Nat) : SpecOk Try.prog (sig f) (fun xs => opt (G f xs)) f := G_spec (by kernel_rfl) (allG_of all_ok) f
end
end Go.Den.L6
