/- The functions' table, and that each is what its twin says. Printed by tw.py. -/
import Derived.Test.YthnpflcemooaeaaL4Tw
import Derived.Test.YthnpflcemooaeaaProg
import Derived.KernelRfl
set_option linter.unusedVariables false
namespace Go.Den.L4
open Go Go.Proofs
noncomputable section
set_option maxRecDepth 100000
def tu40 : Rs := Classical.choose (⟨t40, rfl⟩ : ∃ f, f = t40)
theorem tu40_eq : tu40 = t40 := Classical.choose_spec (⟨t40, rfl⟩ : ∃ f, f = t40)
def tu12 : Rs := Classical.choose (⟨t12, rfl⟩ : ∃ f, f = t12)
theorem tu12_eq : tu12 = t12 := Classical.choose_spec (⟨t12, rfl⟩ : ∃ f, f = t12)
def tu17 : Rs := Classical.choose (⟨t17, rfl⟩ : ∃ f, f = t17)
theorem tu17_eq : tu17 = t17 := Classical.choose_spec (⟨t17, rfl⟩ : ∃ f, f = t17)
def tu41 : Rs := Classical.choose (⟨t41, rfl⟩ : ∃ f, f = t41)
theorem tu41_eq : tu41 = t41 := Classical.choose_spec (⟨t41, rfl⟩ : ∃ f, f = t41)
def tu13 : Rs := Classical.choose (⟨t13, rfl⟩ : ∃ f, f = t13)
theorem tu13_eq : tu13 = t13 := Classical.choose_spec (⟨t13, rfl⟩ : ∃ f, f = t13)
def tu18 : Rs := Classical.choose (⟨t18, rfl⟩ : ∃ f, f = t18)
theorem tu18_eq : tu18 = t18 := Classical.choose_spec (⟨t18, rfl⟩ : ∃ f, f = t18)
def tu143 : ByteArray → Int → ByteArray → Int → Rs := Classical.choose (⟨t143, rfl⟩ : ∃ f, f = t143)
theorem tu143_eq : tu143 = t143 := Classical.choose_spec (⟨t143, rfl⟩ : ∃ f, f = t143)
def tu137 : List (List D) → List (List D) → Rs := Classical.choose (⟨t137, rfl⟩ : ∃ f, f = t137)
theorem tu137_eq : tu137 = t137 := Classical.choose_spec (⟨t137, rfl⟩ : ∃ f, f = t137)
def tu120 : Int → Int → Int → Int → Int → ByteArray → List (List D) → Int → Int → Int → Int → Int → Int → Int → ByteArray → List (List D) → Int → Int → Rs := Classical.choose (⟨t120, rfl⟩ : ∃ f, f = t120)
theorem tu120_eq : tu120 = t120 := Classical.choose_spec (⟨t120, rfl⟩ : ∃ f, f = t120)
def tu83 : List (List D) → List (List D) → Rs := Classical.choose (⟨t83, rfl⟩ : ∃ f, f = t83)
theorem tu83_eq : tu83 = t83 := Classical.choose_spec (⟨t83, rfl⟩ : ∃ f, f = t83)
def tu42 : Int → List (List D) → Int → List (List D) → Rs := Classical.choose (⟨t42, rfl⟩ : ∃ f, f = t42)
theorem tu42_eq : tu42 = t42 := Classical.choose_spec (⟨t42, rfl⟩ : ∃ f, f = t42)
def tu84 : Int → Int → Int → Int → Int → Int → Int → Int → Int → Int → Rs := Classical.choose (⟨t84, rfl⟩ : ∃ f, f = t84)
theorem tu84_eq : tu84 = t84 := Classical.choose_spec (⟨t84, rfl⟩ : ∃ f, f = t84)
def tu43 : List (List D) → List (List D) → Rs := Classical.choose (⟨t43, rfl⟩ : ∃ f, f = t43)
theorem tu43_eq : tu43 = t43 := Classical.choose_spec (⟨t43, rfl⟩ : ∃ f, f = t43)
def tu121 : Int → ByteArray → Int → ByteArray → Rs := Classical.choose (⟨t121, rfl⟩ : ∃ f, f = t121)
theorem tu121_eq : tu121 = t121 := Classical.choose_spec (⟨t121, rfl⟩ : ∃ f, f = t121)
def tu85 : Int → Int → Int → Int → ByteArray → Int → Int → Int → Int → ByteArray → Rs := Classical.choose (⟨t85, rfl⟩ : ∃ f, f = t85)
theorem tu85_eq : tu85 = t85 := Classical.choose_spec (⟨t85, rfl⟩ : ∃ f, f = t85)
def tu44 : List (List D) → List (List D) → Rs := Classical.choose (⟨t44, rfl⟩ : ∃ f, f = t44)
theorem tu44_eq : tu44 = t44 := Classical.choose_spec (⟨t44, rfl⟩ : ∃ f, f = t44)
def tu14 : Int → List (List D) → Int → List (List D) → List (List D) → Int → List (List D) → Int → List (List D) → List (List D) → Rs := Classical.choose (⟨t14, rfl⟩ : ∃ f, f = t14)
theorem tu14_eq : tu14 = t14 := Classical.choose_spec (⟨t14, rfl⟩ : ∃ f, f = t14)
def tu19 : List (List D) → List (List D) → Rs := Classical.choose (⟨t19, rfl⟩ : ∃ f, f = t19)
theorem tu19_eq : tu19 = t19 := Classical.choose_spec (⟨t19, rfl⟩ : ∃ f, f = t19)
def tu86 : Int → Rs := Classical.choose (⟨t86, rfl⟩ : ∃ f, f = t86)
theorem tu86_eq : tu86 = t86 := Classical.choose_spec (⟨t86, rfl⟩ : ∃ f, f = t86)
def tu87 : List (List D) → Int → Rs := Classical.choose (⟨t87, rfl⟩ : ∃ f, f = t87)
theorem tu87_eq : tu87 = t87 := Classical.choose_spec (⟨t87, rfl⟩ : ∃ f, f = t87)
def tu51 : List (List D) → Int → Rs := Classical.choose (⟨t51, rfl⟩ : ∃ f, f = t51)
theorem tu51_eq : tu51 = t51 := Classical.choose_spec (⟨t51, rfl⟩ : ∃ f, f = t51)
def tu46 : List (List D) → Int → Rs := Classical.choose (⟨t46, rfl⟩ : ∃ f, f = t46)
theorem tu46_eq : tu46 = t46 := Classical.choose_spec (⟨t46, rfl⟩ : ∃ f, f = t46)
def tu47 : List (List D) → Int → Rs := Classical.choose (⟨t47, rfl⟩ : ∃ f, f = t47)
theorem tu47_eq : tu47 = t47 := Classical.choose_spec (⟨t47, rfl⟩ : ∃ f, f = t47)
def tu20 : List (List D) → Int → Rs := Classical.choose (⟨t20, rfl⟩ : ∃ f, f = t20)
theorem tu20_eq : tu20 = t20 := Classical.choose_spec (⟨t20, rfl⟩ : ∃ f, f = t20)
def tu88 : List (List D) → Int → Rs := Classical.choose (⟨t88, rfl⟩ : ∃ f, f = t88)
theorem tu88_eq : tu88 = t88 := Classical.choose_spec (⟨t88, rfl⟩ : ∃ f, f = t88)
def tu52 : List (List D) → Int → Rs := Classical.choose (⟨t52, rfl⟩ : ∃ f, f = t52)
theorem tu52_eq : tu52 = t52 := Classical.choose_spec (⟨t52, rfl⟩ : ∃ f, f = t52)
def tu49 : List (List D) → Int → Rs := Classical.choose (⟨t49, rfl⟩ : ∃ f, f = t49)
theorem tu49_eq : tu49 = t49 := Classical.choose_spec (⟨t49, rfl⟩ : ∃ f, f = t49)
def tu50 : List (List D) → Int → Rs := Classical.choose (⟨t50, rfl⟩ : ∃ f, f = t50)
theorem tu50_eq : tu50 = t50 := Classical.choose_spec (⟨t50, rfl⟩ : ∃ f, f = t50)
def tu21 : List (List D) → Int → Rs := Classical.choose (⟨t21, rfl⟩ : ∃ f, f = t21)
theorem tu21_eq : tu21 = t21 := Classical.choose_spec (⟨t21, rfl⟩ : ∃ f, f = t21)
def tu4 : Rs := Classical.choose (⟨t4, rfl⟩ : ∃ f, f = t4)
theorem tu4_eq : tu4 = t4 := Classical.choose_spec (⟨t4, rfl⟩ : ∃ f, f = t4)
theorem te40 : t40 = t40 := rfl
def tw40 (vs : List Vr) : Rs := t40
def tp40 (vs : List Vr) : Rs := tu40
theorem tpw40 : tp40 = tw40 := funext fun vs => by unfold tp40 tw40; rw [tu40_eq, te40]
def th40 (xs : List DV) : Bool × List DV × List (List D) := gOf zr40 zo40 (argsT A40 tp40 xs)
def ta12 (t40 : Rs) : Rs :=
  chk (okR zr40 zo40 t40) <|
  let y1 := asL (resC t40 0 1)
  chk (decide (0 ≤ (0 : Int)) && decide ((0 : Int) < y1.length)) <|
  let y2 := (0 : Int).toNat
  chk (decide (3 ≤ 9 ∧ y2 < y1.length)) <|
  some ([.agg [.i .i64 (asI (resC t40 0 0)), .l (stR y1 y2 2 [.i .i64 (1023 : Int)]), .i .i64 (30 : Int), .l ([] : List (List D)), .l ([] : List (List D))]], [])
theorem te12 : ta12 tu40 = t12 := (by rw [tu40_eq] : ta12 tu40 = ta12 t40).trans (by kernel_rfl)
def tw12 (vs : List Vr) : Rs := ta12 tu40
def tp12 (vs : List Vr) : Rs := tu12
theorem tpw12 : tp12 = tw12 := funext fun vs => by unfold tp12 tw12; rw [tu12_eq, te12]
def th12 (xs : List DV) : Bool × List DV × List (List D) := gOf zr12 zo12 (argsT A12 tp12 xs)
def la17o0 (t12 : Rs) (q1 : Int → Bool → List (List D) → Rs) : Nat → Int → SV → List (List D) → Rs
  | 0, _, _, _ => none
  | m + 1, n3, v4, l5 =>
    let y1 := decide (n3 < (3 : Int))
    if y1 then
     chk (okR zr12 zo12 t12) <|
     let y2 := ([[.i .i64 (asI (resC t12 0 0)), .l (asL (resC t12 0 1)), .i .i64 (asI (resC t12 0 2)), .l (asL (resC t12 0 3)), .l (asL (resC t12 0 4))]] : List (List D))
     chk (true && decide (l5.length + y2.length ≤ lim)) <|
     la17o0 t12 q1 m (w64 (n3 + (1 : Int))) (.d (.b y1)) (l5 ++ y2)
    else
     q1 n3 y1 l5
def ta17 (t12 : Rs) : Rs :=
  la17o0 t12
   (fun (n12 : Int) (b13 : Bool) (l14 : List (List D)) =>
    some ([.one (.l l14)], [])) KK (0 : Int) SV.undef ([] : List (List D))
theorem te17 : ta17 tu12 = t17 := (by rw [tu12_eq] : ta17 tu12 = ta17 t12).trans (by kernel_rfl)
def tw17 (vs : List Vr) : Rs := ta17 tu12
def tp17 (vs : List Vr) : Rs := tu17
theorem tpw17 : tp17 = tw17 := funext fun vs => by unfold tp17 tw17; rw [tu17_eq, te17]
def th17 (xs : List DV) : Bool × List DV × List (List D) := gOf zr17 zo17 (argsT A17 tp17 xs)
theorem te41 : t41 = t41 := rfl
def tw41 (vs : List Vr) : Rs := t41
def tp41 (vs : List Vr) : Rs := tu41
theorem tpw41 : tp41 = tw41 := funext fun vs => by unfold tp41 tw41; rw [tu41_eq, te41]
def th41 (xs : List DV) : Bool × List DV × List (List D) := gOf zr41 zo41 (argsT A41 tp41 xs)
def ta13 (t41 : Rs) : Rs :=
  chk (okR zr41 zo41 t41) <|
  let y1 := asL (resC t41 0 1)
  chk (decide (0 ≤ (0 : Int)) && decide ((0 : Int) < y1.length)) <|
  let y2 := (0 : Int).toNat
  chk (decide (3 ≤ 9 ∧ y2 < y1.length)) <|
  some ([.agg [.i .i64 (asI (resC t41 0 0)), .l (stR y1 y2 2 [.i .i64 (1023 : Int)]), .i .i64 (30 : Int), .l ([] : List (List D)), .l ([] : List (List D))]], [])
theorem te13 : ta13 tu41 = t13 := (by rw [tu41_eq] : ta13 tu41 = ta13 t41).trans (by kernel_rfl)
def tw13 (vs : List Vr) : Rs := ta13 tu41
def tp13 (vs : List Vr) : Rs := tu13
theorem tpw13 : tp13 = tw13 := funext fun vs => by unfold tp13 tw13; rw [tu13_eq, te13]
def th13 (xs : List DV) : Bool × List DV × List (List D) := gOf zr13 zo13 (argsT A13 tp13 xs)
def la18o0 (t13 : Rs) (q1 : Int → Bool → List (List D) → Rs) : Nat → Int → SV → List (List D) → Rs
  | 0, _, _, _ => none
  | m + 1, n3, v4, l5 =>
    let y1 := decide (n3 < (3 : Int))
    if y1 then
     chk (okR zr13 zo13 t13) <|
     let y2 := ([[.i .i64 (asI (resC t13 0 0)), .l (asL (resC t13 0 1)), .i .i64 (asI (resC t13 0 2)), .l (asL (resC t13 0 3)), .l (asL (resC t13 0 4))]] : List (List D))
     chk (true && decide (l5.length + y2.length ≤ lim)) <|
     la18o0 t13 q1 m (w64 (n3 + (1 : Int))) (.d (.b y1)) (l5 ++ y2)
    else
     q1 n3 y1 l5
def ta18 (t13 : Rs) : Rs :=
  la18o0 t13
   (fun (n12 : Int) (b13 : Bool) (l14 : List (List D)) =>
    some ([.one (.l l14)], [])) KK (0 : Int) SV.undef ([] : List (List D))
theorem te18 : ta18 tu13 = t18 := (by rw [tu13_eq] : ta18 tu13 = ta18 t13).trans (by kernel_rfl)
def tw18 (vs : List Vr) : Rs := ta18 tu13
def tp18 (vs : List Vr) : Rs := tu18
theorem tpw18 : tp18 = tw18 := funext fun vs => by unfold tp18 tw18; rw [tu18_eq, te18]
def th18 (xs : List DV) : Bool × List DV × List (List D) := gOf zr18 zo18 (argsT A18 tp18 xs)
theorem te143 : t143 = t143 := rfl
def tw143 (vs : List Vr) : Rs := t143 (vS vs 0) (vI vs 1) (vS vs 2) (vI vs 3)
def tp143 (vs : List Vr) : Rs := tu143 (vS vs 0) (vI vs 1) (vS vs 2) (vI vs 3)
theorem tpw143 : tp143 = tw143 := funext fun vs => by unfold tp143 tw143; rw [tu143_eq, te143]
def th143 (xs : List DV) : Bool × List DV × List (List D) := gOf zr143 zo143 (argsT A143 tp143 xs)
def la137o1 (t143 : ByteArray → Int → ByteArray → Int → Rs) (l8 : List (List D)) (l9 : List (List D)) (b10 : Bool) (b12 : Bool) (q1 : Int → Bool → Bool → Rs) (q2 : Int → Bool → SV → Rs) : Nat → Int → SV → SV → Rs
  | 0, _, _, _ => none
  | m + 1, n11, v13, v14 =>
    let y1 := decide (n11 < (l8.length : Int))
    if y1 then
     let y2 := l8.getD n11.toNat []
     chk (decide (0 ≤ n11) && decide (n11 < l8.length) && isRow z129 y2) <|
     let y3 := l9.getD n11.toNat []
     chk (decide (0 ≤ n11) && decide (n11 < l9.length) && isRow z129 y3) <|
     let y4 := t143 (asS (nthD y2 0)) (asI (nthD y2 1)) (asS (nthD y3 0)) (asI (nthD y3 1))
     chk (okR zr143 zo143 y4) <|
     let y5 := !(asB (resC y4 0 0))
     if y5 then
      q1 n11 y1 y5
     else
      la137o1 t143 l8 l9 b10 b12 q1 q2 m (w64 (n11 + (1 : Int))) (.d (.b y1)) (.d (.b y5))
    else
     q2 n11 y1 (keepV [] v14)
def ta137 (t143 : ByteArray → Int → ByteArray → Int → Rs) (l1 : List (List D)) (l2 : List (List D)) : Rs :=
  let y1 := (l1.length : Int) != (l2.length : Int)
  if y1 then
   some ([.one (.b false)], [])
  else
   la137o1 t143 l1 l2 false y1
    (fun (n28 : Int) (b29 : Bool) (b30 : Bool) =>
     some ([.one (.b false)], []))
    (fun (n31 : Int) (b32 : Bool) (v33 : SV) =>
     some ([.one (.b true)], [])) KK (0 : Int) SV.undef SV.undef
theorem te137 : ta137 tu143 = t137 := (by rw [tu143_eq] : ta137 tu143 = ta137 t143).trans (by kernel_rfl)
def tw137 (vs : List Vr) : Rs := ta137 tu143 (vL vs 0) (vL vs 1)
def tp137 (vs : List Vr) : Rs := tu137 (vL vs 0) (vL vs 1)
theorem tpw137 : tp137 = tw137 := funext fun vs => by unfold tp137 tw137; rw [tu137_eq, te137]
def th137 (xs : List DV) : Bool × List DV × List (List D) := gOf zr137 zo137 (argsT A137 tp137 xs)
def ta120 (t137 : List (List D) → List (List D) → Rs) (n1 : Int) (n2 : Int) (n3 : Int) (n4 : Int) (n5 : Int) (s6 : ByteArray) (l7 : List (List D)) (n8 : Int) (n9 : Int) (n10 : Int) (n11 : Int) (n12 : Int) (n13 : Int) (n14 : Int) (s15 : ByteArray) (l16 : List (List D)) (n17 : Int) (n18 : Int) : Rs :=
  if n1 != n10 then
   some ([.one (.b false)], [])
  else
   if n2 != n11 then
    some ([.one (.b false)], [])
   else
    if n3 != n12 then
     some ([.one (.b false)], [])
    else
     if n4 != n13 then
      some ([.one (.b false)], [])
     else
      if n5 != n14 then
       some ([.one (.b false)], [])
      else
       if !(s6.toList == s15.toList) then
        some ([.one (.b false)], [])
       else
        chk (okR zr137 zo137 (t137 l7 l16)) <|
        if !(asB (resC (t137 l7 l16) 0 0)) then
         some ([.one (.b false)], [])
        else
         if n8 != n17 then
          some ([.one (.b false)], [])
         else
          if n9 != n18 then
           some ([.one (.b false)], [])
          else
           some ([.one (.b true)], [])
theorem te120 : ta120 tu137 = t120 := (by rw [tu137_eq] : ta120 tu137 = ta120 t137).trans (by kernel_rfl)
def tw120 (vs : List Vr) : Rs := ta120 tu137 (vI vs 0) (vI vs 1) (vI vs 2) (vI vs 3) (vI vs 4) (vS vs 5) (vL vs 6) (vI vs 7) (vI vs 8) (vI vs 9) (vI vs 10) (vI vs 11) (vI vs 12) (vI vs 13) (vS vs 14) (vL vs 15) (vI vs 16) (vI vs 17)
def tp120 (vs : List Vr) : Rs := tu120 (vI vs 0) (vI vs 1) (vI vs 2) (vI vs 3) (vI vs 4) (vS vs 5) (vL vs 6) (vI vs 7) (vI vs 8) (vI vs 9) (vI vs 10) (vI vs 11) (vI vs 12) (vI vs 13) (vS vs 14) (vL vs 15) (vI vs 16) (vI vs 17)
theorem tpw120 : tp120 = tw120 := funext fun vs => by unfold tp120 tw120; rw [tu120_eq, te120]
def th120 (xs : List DV) : Bool × List DV × List (List D) := gOf zr120 zo120 (argsT A120 tp120 xs)
def la83o1 (t120 : Int → Int → Int → Int → Int → ByteArray → List (List D) → Int → Int → Int → Int → Int → Int → Int → ByteArray → List (List D) → Int → Int → Rs) (l8 : List (List D)) (l9 : List (List D)) (b10 : Bool) (b12 : Bool) (q1 : Int → Bool → Bool → Rs) (q2 : Int → Bool → SV → Rs) : Nat → Int → SV → SV → Rs
  | 0, _, _, _ => none
  | m + 1, n11, v13, v14 =>
    let y1 := decide (n11 < (l8.length : Int))
    if y1 then
     let y2 := l8.getD n11.toNat []
     chk (decide (0 ≤ n11) && decide (n11 < l8.length) && isRow z64 y2) <|
     let y3 := l9.getD n11.toNat []
     chk (decide (0 ≤ n11) && decide (n11 < l9.length) && isRow z64 y3) <|
     let y4 := t120 (asI (nthD y2 0)) (asI (nthD y2 1)) (asI (nthD y2 2)) (asI (nthD y2 3)) (asI (nthD y2 4)) (asS (nthD y2 5)) (asL (nthD y2 6)) (asI (nthD y2 7)) (asI (nthD y2 8)) (asI (nthD y3 0)) (asI (nthD y3 1)) (asI (nthD y3 2)) (asI (nthD y3 3)) (asI (nthD y3 4)) (asS (nthD y3 5)) (asL (nthD y3 6)) (asI (nthD y3 7)) (asI (nthD y3 8))
     chk (okR zr120 zo120 y4) <|
     let y5 := !(asB (resC y4 0 0))
     if y5 then
      q1 n11 y1 y5
     else
      la83o1 t120 l8 l9 b10 b12 q1 q2 m (w64 (n11 + (1 : Int))) (.d (.b y1)) (.d (.b y5))
    else
     q2 n11 y1 (keepV [] v14)
def ta83 (t120 : Int → Int → Int → Int → Int → ByteArray → List (List D) → Int → Int → Int → Int → Int → Int → Int → ByteArray → List (List D) → Int → Int → Rs) (l1 : List (List D)) (l2 : List (List D)) : Rs :=
  let y1 := (l1.length : Int) != (l2.length : Int)
  if y1 then
   some ([.one (.b false)], [])
  else
   la83o1 t120 l1 l2 false y1
    (fun (n28 : Int) (b29 : Bool) (b30 : Bool) =>
     some ([.one (.b false)], []))
    (fun (n31 : Int) (b32 : Bool) (v33 : SV) =>
     some ([.one (.b true)], [])) KK (0 : Int) SV.undef SV.undef
theorem te83 : ta83 tu120 = t83 := (by rw [tu120_eq] : ta83 tu120 = ta83 t120).trans (by kernel_rfl)
def tw83 (vs : List Vr) : Rs := ta83 tu120 (vL vs 0) (vL vs 1)
def tp83 (vs : List Vr) : Rs := tu83 (vL vs 0) (vL vs 1)
theorem tpw83 : tp83 = tw83 := funext fun vs => by unfold tp83 tw83; rw [tu83_eq, te83]
def th83 (xs : List DV) : Bool × List DV × List (List D) := gOf zr83 zo83 (argsT A83 tp83 xs)
def ta42 (t83 : List (List D) → List (List D) → Rs) (n1 : Int) (l2 : List (List D)) (n3 : Int) (l4 : List (List D)) : Rs :=
  if n1 != n3 then
   some ([.one (.b false)], [])
  else
   chk (okR zr83 zo83 (t83 l2 l4)) <|
   if !(asB (resC (t83 l2 l4) 0 0)) then
    some ([.one (.b false)], [])
   else
    some ([.one (.b true)], [])
theorem te42 : ta42 tu83 = t42 := (by rw [tu83_eq] : ta42 tu83 = ta42 t83).trans (by kernel_rfl)
def tw42 (vs : List Vr) : Rs := ta42 tu83 (vI vs 0) (vL vs 1) (vI vs 2) (vL vs 3)
def tp42 (vs : List Vr) : Rs := tu42 (vI vs 0) (vL vs 1) (vI vs 2) (vL vs 3)
theorem tpw42 : tp42 = tw42 := funext fun vs => by unfold tp42 tw42; rw [tu42_eq, te42]
def th42 (xs : List DV) : Bool × List DV × List (List D) := gOf zr42 zo42 (argsT A42 tp42 xs)
theorem te84 : t84 = t84 := rfl
def tw84 (vs : List Vr) : Rs := t84 (vI vs 0) (vI vs 1) (vI vs 2) (vI vs 3) (vI vs 4) (vI vs 5) (vI vs 6) (vI vs 7) (vI vs 8) (vI vs 9)
def tp84 (vs : List Vr) : Rs := tu84 (vI vs 0) (vI vs 1) (vI vs 2) (vI vs 3) (vI vs 4) (vI vs 5) (vI vs 6) (vI vs 7) (vI vs 8) (vI vs 9)
theorem tpw84 : tp84 = tw84 := funext fun vs => by unfold tp84 tw84; rw [tu84_eq, te84]
def th84 (xs : List DV) : Bool × List DV × List (List D) := gOf zr84 zo84 (argsT A84 tp84 xs)
def la43o1 (t84 : Int → Int → Int → Int → Int → Int → Int → Int → Int → Int → Rs) (l8 : List (List D)) (l9 : List (List D)) (b10 : Bool) (b12 : Bool) (q1 : Int → Bool → Bool → Rs) (q2 : Int → Bool → SV → Rs) : Nat → Int → SV → SV → Rs
  | 0, _, _, _ => none
  | m + 1, n11, v13, v14 =>
    let y1 := decide (n11 < (l8.length : Int))
    if y1 then
     let y2 := l8.getD n11.toNat []
     chk (decide (0 ≤ n11) && decide (n11 < l8.length) && isRow z90 y2) <|
     let y3 := l9.getD n11.toNat []
     chk (decide (0 ≤ n11) && decide (n11 < l9.length) && isRow z90 y3) <|
     let y4 := t84 (asI (nthD y2 0)) (asI (nthD y2 1)) (asI (nthD y2 2)) (asI (nthD y2 3)) (asI (nthD y2 4)) (asI (nthD y3 0)) (asI (nthD y3 1)) (asI (nthD y3 2)) (asI (nthD y3 3)) (asI (nthD y3 4))
     chk (okR zr84 zo84 y4) <|
     let y5 := !(asB (resC y4 0 0))
     if y5 then
      q1 n11 y1 y5
     else
      la43o1 t84 l8 l9 b10 b12 q1 q2 m (w64 (n11 + (1 : Int))) (.d (.b y1)) (.d (.b y5))
    else
     q2 n11 y1 (keepV [] v14)
def ta43 (t84 : Int → Int → Int → Int → Int → Int → Int → Int → Int → Int → Rs) (l1 : List (List D)) (l2 : List (List D)) : Rs :=
  let y1 := (l1.length : Int) != (l2.length : Int)
  if y1 then
   some ([.one (.b false)], [])
  else
   la43o1 t84 l1 l2 false y1
    (fun (n28 : Int) (b29 : Bool) (b30 : Bool) =>
     some ([.one (.b false)], []))
    (fun (n31 : Int) (b32 : Bool) (v33 : SV) =>
     some ([.one (.b true)], [])) KK (0 : Int) SV.undef SV.undef
theorem te43 : ta43 tu84 = t43 := (by rw [tu84_eq] : ta43 tu84 = ta43 t84).trans (by kernel_rfl)
def tw43 (vs : List Vr) : Rs := ta43 tu84 (vL vs 0) (vL vs 1)
def tp43 (vs : List Vr) : Rs := tu43 (vL vs 0) (vL vs 1)
theorem tpw43 : tp43 = tw43 := funext fun vs => by unfold tp43 tw43; rw [tu43_eq, te43]
def th43 (xs : List DV) : Bool × List DV × List (List D) := gOf zr43 zo43 (argsT A43 tp43 xs)
theorem te121 : t121 = t121 := rfl
def tw121 (vs : List Vr) : Rs := t121 (vI vs 0) (vS vs 1) (vI vs 2) (vS vs 3)
def tp121 (vs : List Vr) : Rs := tu121 (vI vs 0) (vS vs 1) (vI vs 2) (vS vs 3)
theorem tpw121 : tp121 = tw121 := funext fun vs => by unfold tp121 tw121; rw [tu121_eq, te121]
def th121 (xs : List DV) : Bool × List DV × List (List D) := gOf zr121 zo121 (argsT A121 tp121 xs)
def ta85 (t121 : Int → ByteArray → Int → ByteArray → Rs) (n1 : Int) (n2 : Int) (n3 : Int) (n4 : Int) (s5 : ByteArray) (n6 : Int) (n7 : Int) (n8 : Int) (n9 : Int) (s10 : ByteArray) : Rs :=
  if n1 != n6 then
   some ([.one (.b false)], [])
  else
   if n2 != n7 then
    some ([.one (.b false)], [])
   else
    if n3 != n8 then
     some ([.one (.b false)], [])
    else
     let y1 := t121 n4 s5 n9 s10
     chk (okR zr121 zo121 y1) <|
     if !(asB (resC y1 0 0)) then
      some ([.one (.b false)], [])
     else
      some ([.one (.b true)], [])
theorem te85 : ta85 tu121 = t85 := (by rw [tu121_eq] : ta85 tu121 = ta85 t121).trans (by kernel_rfl)
def tw85 (vs : List Vr) : Rs := ta85 tu121 (vI vs 0) (vI vs 1) (vI vs 2) (vI vs 3) (vS vs 4) (vI vs 5) (vI vs 6) (vI vs 7) (vI vs 8) (vS vs 9)
def tp85 (vs : List Vr) : Rs := tu85 (vI vs 0) (vI vs 1) (vI vs 2) (vI vs 3) (vS vs 4) (vI vs 5) (vI vs 6) (vI vs 7) (vI vs 8) (vS vs 9)
theorem tpw85 : tp85 = tw85 := funext fun vs => by unfold tp85 tw85; rw [tu85_eq, te85]
def th85 (xs : List DV) : Bool × List DV × List (List D) := gOf zr85 zo85 (argsT A85 tp85 xs)
def la44o1 (t85 : Int → Int → Int → Int → ByteArray → Int → Int → Int → Int → ByteArray → Rs) (l8 : List (List D)) (l9 : List (List D)) (b10 : Bool) (b12 : Bool) (q1 : Int → Bool → Bool → Rs) (q2 : Int → Bool → SV → Rs) : Nat → Int → SV → SV → Rs
  | 0, _, _, _ => none
  | m + 1, n11, v13, v14 =>
    let y1 := decide (n11 < (l8.length : Int))
    if y1 then
     let y2 := l8.getD n11.toNat []
     chk (decide (0 ≤ n11) && decide (n11 < l8.length) && isRow z81 y2) <|
     let y3 := l9.getD n11.toNat []
     chk (decide (0 ≤ n11) && decide (n11 < l9.length) && isRow z81 y3) <|
     let y4 := t85 (asI (nthD y2 0)) (asI (nthD y2 1)) (asI (nthD y2 2)) (asI (nthD y2 3)) (asS (nthD y2 4)) (asI (nthD y3 0)) (asI (nthD y3 1)) (asI (nthD y3 2)) (asI (nthD y3 3)) (asS (nthD y3 4))
     chk (okR zr85 zo85 y4) <|
     let y5 := !(asB (resC y4 0 0))
     if y5 then
      q1 n11 y1 y5
     else
      la44o1 t85 l8 l9 b10 b12 q1 q2 m (w64 (n11 + (1 : Int))) (.d (.b y1)) (.d (.b y5))
    else
     q2 n11 y1 (keepV [] v14)
def ta44 (t85 : Int → Int → Int → Int → ByteArray → Int → Int → Int → Int → ByteArray → Rs) (l1 : List (List D)) (l2 : List (List D)) : Rs :=
  let y1 := (l1.length : Int) != (l2.length : Int)
  if y1 then
   some ([.one (.b false)], [])
  else
   la44o1 t85 l1 l2 false y1
    (fun (n28 : Int) (b29 : Bool) (b30 : Bool) =>
     some ([.one (.b false)], []))
    (fun (n31 : Int) (b32 : Bool) (v33 : SV) =>
     some ([.one (.b true)], [])) KK (0 : Int) SV.undef SV.undef
theorem te44 : ta44 tu85 = t44 := (by rw [tu85_eq] : ta44 tu85 = ta44 t85).trans (by kernel_rfl)
def tw44 (vs : List Vr) : Rs := ta44 tu85 (vL vs 0) (vL vs 1)
def tp44 (vs : List Vr) : Rs := tu44 (vL vs 0) (vL vs 1)
theorem tpw44 : tp44 = tw44 := funext fun vs => by unfold tp44 tw44; rw [tu44_eq, te44]
def th44 (xs : List DV) : Bool × List DV × List (List D) := gOf zr44 zo44 (argsT A44 tp44 xs)
def ta14 (t42 : Int → List (List D) → Int → List (List D) → Rs) (t43 : List (List D) → List (List D) → Rs) (t44 : List (List D) → List (List D) → Rs) (n1 : Int) (l2 : List (List D)) (n3 : Int) (l4 : List (List D)) (l5 : List (List D)) (n6 : Int) (l7 : List (List D)) (n8 : Int) (l9 : List (List D)) (l10 : List (List D)) : Rs :=
  let y1 := t42 n1 l2 n6 l7
  chk (okR zr42 zo42 y1) <|
  if !(asB (resC y1 0 0)) then
   some ([.one (.b false)], [])
  else
   if n3 != n8 then
    some ([.one (.b false)], [])
   else
    chk (okR zr43 zo43 (t43 l4 l9)) <|
    if !(asB (resC (t43 l4 l9) 0 0)) then
     some ([.one (.b false)], [])
    else
     chk (okR zr44 zo44 (t44 l5 l10)) <|
     if !(asB (resC (t44 l5 l10) 0 0)) then
      some ([.one (.b false)], [])
     else
      some ([.one (.b true)], [])
theorem te14 : ta14 tu42 tu43 tu44 = t14 := (by rw [tu42_eq, tu43_eq, tu44_eq] : ta14 tu42 tu43 tu44 = ta14 t42 t43 t44).trans (by kernel_rfl)
def tw14 (vs : List Vr) : Rs := ta14 tu42 tu43 tu44 (vI vs 0) (vL vs 1) (vI vs 2) (vL vs 3) (vL vs 4) (vI vs 5) (vL vs 6) (vI vs 7) (vL vs 8) (vL vs 9)
def tp14 (vs : List Vr) : Rs := tu14 (vI vs 0) (vL vs 1) (vI vs 2) (vL vs 3) (vL vs 4) (vI vs 5) (vL vs 6) (vI vs 7) (vL vs 8) (vL vs 9)
theorem tpw14 : tp14 = tw14 := funext fun vs => by unfold tp14 tw14; rw [tu14_eq, te14]
def th14 (xs : List DV) : Bool × List DV × List (List D) := gOf zr14 zo14 (argsT A14 tp14 xs)
def la19o1 (t14 : Int → List (List D) → Int → List (List D) → List (List D) → Int → List (List D) → Int → List (List D) → List (List D) → Rs) (l8 : List (List D)) (l9 : List (List D)) (b10 : Bool) (b12 : Bool) (q1 : Int → Bool → Bool → Rs) (q2 : Int → Bool → SV → Rs) : Nat → Int → SV → SV → Rs
  | 0, _, _, _ => none
  | m + 1, n11, v13, v14 =>
    let y1 := decide (n11 < (l8.length : Int))
    if y1 then
     let y2 := l8.getD n11.toNat []
     chk (decide (0 ≤ n11) && decide (n11 < l8.length) && isRow z28 y2) <|
     let y3 := l9.getD n11.toNat []
     chk (decide (0 ≤ n11) && decide (n11 < l9.length) && isRow z28 y3) <|
     let y4 := t14 (asI (nthD y2 0)) (asL (nthD y2 1)) (asI (nthD y2 2)) (asL (nthD y2 3)) (asL (nthD y2 4)) (asI (nthD y3 0)) (asL (nthD y3 1)) (asI (nthD y3 2)) (asL (nthD y3 3)) (asL (nthD y3 4))
     chk (okR zr14 zo14 y4) <|
     let y5 := !(asB (resC y4 0 0))
     if y5 then
      q1 n11 y1 y5
     else
      la19o1 t14 l8 l9 b10 b12 q1 q2 m (w64 (n11 + (1 : Int))) (.d (.b y1)) (.d (.b y5))
    else
     q2 n11 y1 (keepV [] v14)
def ta19 (t14 : Int → List (List D) → Int → List (List D) → List (List D) → Int → List (List D) → Int → List (List D) → List (List D) → Rs) (l1 : List (List D)) (l2 : List (List D)) : Rs :=
  let y1 := (l1.length : Int) != (l2.length : Int)
  if y1 then
   some ([.one (.b false)], [])
  else
   la19o1 t14 l1 l2 false y1
    (fun (n28 : Int) (b29 : Bool) (b30 : Bool) =>
     some ([.one (.b false)], []))
    (fun (n31 : Int) (b32 : Bool) (v33 : SV) =>
     some ([.one (.b true)], [])) KK (0 : Int) SV.undef SV.undef
theorem te19 : ta19 tu14 = t19 := (by rw [tu14_eq] : ta19 tu14 = ta19 t14).trans (by kernel_rfl)
def tw19 (vs : List Vr) : Rs := ta19 tu14 (vL vs 0) (vL vs 1)
def tp19 (vs : List Vr) : Rs := tu19 (vL vs 0) (vL vs 1)
theorem tpw19 : tp19 = tw19 := funext fun vs => by unfold tp19 tw19; rw [tu19_eq, te19]
def th19 (xs : List DV) : Bool × List DV × List (List D) := gOf zr19 zo19 (argsT A19 tp19 xs)
theorem te86 : t86 = t86 := rfl
def tw86 (vs : List Vr) : Rs := t86 (vI vs 0)
def tp86 (vs : List Vr) : Rs := tu86 (vI vs 0)
theorem tpw86 : tp86 = tw86 := funext fun vs => by unfold tp86 tw86; rw [tu86_eq, te86]
def th86 (xs : List DV) : Bool × List DV × List (List D) := gOf zr86 zo86 (argsT A86 tp86 xs)
def la87o0 (t86 : Int → Rs) (n8 : Int) (q1 : Int → Int → Bool → List (List D) → Rs) : Nat → Int → Int → SV → List (List D) → Rs
  | 0, _, _, _, _ => none
  | m + 1, n7, n9, v10, l11 =>
    let y1 := decide (n9 < (l11.length : Int))
    if y1 then
     chk (okR zr86 zo86 (t86 n7)) <|
     chk (decide (0 ≤ n9) && decide (n9 < l11.length)) <|
     chk (decide (1 ≤ 2 ∧ (n9.toNat) < l11.length)) <|
     let y2 := stR l11 (n9.toNat) 0 [.s (asS (resC (t86 n7) 0 0))]
     chk (decide (0 ≤ n9) && decide (n9 < y2.length)) <|
     chk (decide (2 ≤ 2 ∧ (n9.toNat) < y2.length)) <|
     let y3 := w64 (n7 + (1 : Int))
     la87o0 t86 n8 q1 m (w64 (y3 + (1 : Int))) (w64 (n9 + (1 : Int))) (.d (.b y1)) (stR y2 (n9.toNat) 1 [.i .i64 y3])
    else
     q1 n7 n9 y1 l11
def ta87 (t86 : Int → Rs) (l1 : List (List D)) (n2 : Int) : Rs :=
  la87o0 t86 (0 : Int)
   (fun (n21 : Int) (n22 : Int) (b23 : Bool) (l24 : List (List D)) =>
    some ([.one (.i .i64 n21)], [[.l l24]])) KK n2 (0 : Int) SV.undef l1
theorem te87 : ta87 tu86 = t87 := (by rw [tu86_eq] : ta87 tu86 = ta87 t86).trans (by kernel_rfl)
def tw87 (vs : List Vr) : Rs := ta87 tu86 (vL vs 0) (vI vs 1)
def tp87 (vs : List Vr) : Rs := tu87 (vL vs 0) (vI vs 1)
theorem tpw87 : tp87 = tw87 := funext fun vs => by unfold tp87 tw87; rw [tu87_eq, te87]
def th87 (xs : List DV) : Bool × List DV × List (List D) := gOf zr87 zo87 (argsT A87 tp87 xs)
def la51o0 (t86 : Int → Rs) (t87 : List (List D) → Int → Rs) (n8 : Int) (q1 : Int → Int → Bool → List (List D) → Rs) : Nat → Int → Int → SV → List (List D) → Rs
  | 0, _, _, _, _ => none
  | m + 1, n7, n9, v10, l11 =>
    let y1 := decide (n9 < (l11.length : Int))
    if y1 then
     chk (decide (0 ≤ n9) && decide (n9 < l11.length)) <|
     chk (decide (1 ≤ 9 ∧ (n9.toNat) < l11.length)) <|
     let y2 := stR l11 (n9.toNat) 0 [.i .i64 n7]
     chk (decide (0 ≤ n9) && decide (n9 < y2.length)) <|
     chk (decide (2 ≤ 9 ∧ (n9.toNat) < y2.length)) <|
     let y3 := w64 (n7 + (1 : Int))
     let y4 := stR y2 (n9.toNat) 1 [.i .i64 y3]
     chk (decide (0 ≤ n9) && decide (n9 < y4.length)) <|
     chk (decide (3 ≤ 9 ∧ (n9.toNat) < y4.length)) <|
     let y5 := w64 (y3 + (1 : Int))
     let y6 := stR y4 (n9.toNat) 2 [.i .i64 y5]
     chk (decide (0 ≤ n9) && decide (n9 < y6.length)) <|
     chk (decide (4 ≤ 9 ∧ (n9.toNat) < y6.length)) <|
     let y7 := w64 (y5 + (1 : Int))
     let y8 := stR y6 (n9.toNat) 3 [.i .i64 y7]
     chk (decide (0 ≤ n9) && decide (n9 < y8.length)) <|
     chk (decide (5 ≤ 9 ∧ (n9.toNat) < y8.length)) <|
     let y9 := w64 (y7 + (1 : Int))
     let y10 := w64 (y9 + (1 : Int))
     let y11 := t86 y10
     chk (okR zr86 zo86 y11) <|
     let y12 := stR y8 (n9.toNat) 4 [.i .i64 y9]
     chk (decide (0 ≤ n9) && decide (n9 < y12.length)) <|
     chk (decide (6 ≤ 9 ∧ (n9.toNat) < y12.length)) <|
     let y13 := stR y12 (n9.toNat) 5 [.s (asS (resC y11 0 0))]
     chk (decide (0 ≤ n9) && decide (n9 < y13.length)) <|
     let y14 := y13.getD (n9.toNat) []
     let y15 := asL (nthD y14 6)
     let y16 := t87 y15 (w64 (y10 + (1 : Int)))
     chk (okR zr87 zo87 y16 && (decide (6 + 1 ≤ y14.length) && isF [.l []] 6 y14 && fstSz 2 y15)) <|
     let y17 := stR y13 (n9.toNat) 6 [.l (asL (outC y16 0 0))]
     chk (decide (0 ≤ n9) && decide (n9 < y17.length)) <|
     chk (decide (8 ≤ 9 ∧ (n9.toNat) < y17.length)) <|
     let y18 := asI (resC y16 0 0)
     let y19 := stR y17 (n9.toNat) 7 [.i .i64 y18]
     chk (decide (0 ≤ n9) && decide (n9 < y19.length)) <|
     chk (decide (9 ≤ 9 ∧ (n9.toNat) < y19.length)) <|
     let y20 := w64 (y18 + (1 : Int))
     la51o0 t86 t87 n8 q1 m (w64 (y20 + (1 : Int))) (w64 (n9 + (1 : Int))) (.d (.b y1)) (stR y19 (n9.toNat) 8 [.i .i64 y20])
    else
     q1 n7 n9 y1 l11
def ta51 (t86 : Int → Rs) (t87 : List (List D) → Int → Rs) (l1 : List (List D)) (n2 : Int) : Rs :=
  la51o0 t86 t87 (0 : Int)
   (fun (n21 : Int) (n22 : Int) (b23 : Bool) (l24 : List (List D)) =>
    some ([.one (.i .i64 n21)], [[.l l24]])) KK n2 (0 : Int) SV.undef l1
theorem te51 : ta51 tu86 tu87 = t51 := (by rw [tu86_eq, tu87_eq] : ta51 tu86 tu87 = ta51 t86 t87).trans (by kernel_rfl)
def tw51 (vs : List Vr) : Rs := ta51 tu86 tu87 (vL vs 0) (vI vs 1)
def tp51 (vs : List Vr) : Rs := tu51 (vL vs 0) (vI vs 1)
theorem tpw51 : tp51 = tw51 := funext fun vs => by unfold tp51 tw51; rw [tu51_eq, te51]
def th51 (xs : List DV) : Bool × List DV × List (List D) := gOf zr51 zo51 (argsT A51 tp51 xs)
theorem te46 : t46 = t46 := rfl
def tw46 (vs : List Vr) : Rs := t46 (vL vs 0) (vI vs 1)
def tp46 (vs : List Vr) : Rs := tu46 (vL vs 0) (vI vs 1)
theorem tpw46 : tp46 = tw46 := funext fun vs => by unfold tp46 tw46; rw [tu46_eq, te46]
def th46 (xs : List DV) : Bool × List DV × List (List D) := gOf zr46 zo46 (argsT A46 tp46 xs)
def la47o0 (t86 : Int → Rs) (n8 : Int) (q1 : Int → Int → Bool → List (List D) → Rs) : Nat → Int → Int → SV → List (List D) → Rs
  | 0, _, _, _, _ => none
  | m + 1, n7, n9, v10, l11 =>
    let y1 := decide (n9 < (l11.length : Int))
    if y1 then
     chk (decide (0 ≤ n9) && decide (n9 < l11.length)) <|
     chk (decide (1 ≤ 5 ∧ (n9.toNat) < l11.length)) <|
     let y2 := stR l11 (n9.toNat) 0 [.i .i64 n7]
     chk (decide (0 ≤ n9) && decide (n9 < y2.length)) <|
     chk (decide (2 ≤ 5 ∧ (n9.toNat) < y2.length)) <|
     let y3 := w64 (n7 + (1 : Int))
     let y4 := stR y2 (n9.toNat) 1 [.i .i64 y3]
     chk (decide (0 ≤ n9) && decide (n9 < y4.length)) <|
     chk (decide (3 ≤ 5 ∧ (n9.toNat) < y4.length)) <|
     let y5 := w64 (y3 + (1 : Int))
     let y6 := stR y4 (n9.toNat) 2 [.i .i64 y5]
     chk (decide (0 ≤ n9) && decide (n9 < y6.length)) <|
     chk (decide (4 ≤ 5 ∧ (n9.toNat) < y6.length)) <|
     let y7 := w64 (y5 + (1 : Int))
     let y8 := w64 (y7 + (1 : Int))
     let y9 := t86 y8
     chk (okR zr86 zo86 y9) <|
     let y10 := stR y6 (n9.toNat) 3 [.i .i64 y7]
     chk (decide (0 ≤ n9) && decide (n9 < y10.length)) <|
     chk (decide (5 ≤ 5 ∧ (n9.toNat) < y10.length)) <|
     la47o0 t86 n8 q1 m (w64 (y8 + (1 : Int))) (w64 (n9 + (1 : Int))) (.d (.b y1)) (stR y10 (n9.toNat) 4 [.s (asS (resC y9 0 0))])
    else
     q1 n7 n9 y1 l11
def ta47 (t86 : Int → Rs) (l1 : List (List D)) (n2 : Int) : Rs :=
  la47o0 t86 (0 : Int)
   (fun (n21 : Int) (n22 : Int) (b23 : Bool) (l24 : List (List D)) =>
    some ([.one (.i .i64 n21)], [[.l l24]])) KK n2 (0 : Int) SV.undef l1
theorem te47 : ta47 tu86 = t47 := (by rw [tu86_eq] : ta47 tu86 = ta47 t86).trans (by kernel_rfl)
def tw47 (vs : List Vr) : Rs := ta47 tu86 (vL vs 0) (vI vs 1)
def tp47 (vs : List Vr) : Rs := tu47 (vL vs 0) (vI vs 1)
theorem tpw47 : tp47 = tw47 := funext fun vs => by unfold tp47 tw47; rw [tu47_eq, te47]
def th47 (xs : List DV) : Bool × List DV × List (List D) := gOf zr47 zo47 (argsT A47 tp47 xs)
def la20o0 (t46 : List (List D) → Int → Rs) (t47 : List (List D) → Int → Rs) (t51 : List (List D) → Int → Rs) (n8 : Int) (q1 : Int → Int → Bool → List (List D) → Rs) : Nat → Int → Int → SV → List (List D) → Rs
  | 0, _, _, _, _ => none
  | m + 1, n7, n9, v10, l11 =>
    let y1 := decide (n9 < (l11.length : Int))
    if y1 then
     chk (decide (0 ≤ n9) && decide (n9 < l11.length)) <|
     chk (decide (1 ≤ 5 ∧ (n9.toNat) < l11.length)) <|
     let y2 := stR l11 (n9.toNat) 0 [.i .i64 n7]
     chk (decide (0 ≤ n9) && decide (n9 < y2.length)) <|
     let y3 := y2.getD (n9.toNat) []
     let y4 := asL (nthD y3 1)
     let y5 := t51 y4 (w64 (n7 + (1 : Int)))
     chk (okR zr51 zo51 y5 && (decide (1 + 1 ≤ y3.length) && isF [.l []] 1 y3 && fstSz 9 y4)) <|
     let y6 := stR y2 (n9.toNat) 1 [.l (asL (outC y5 0 0))]
     chk (decide (0 ≤ n9) && decide (n9 < y6.length)) <|
     chk (decide (3 ≤ 5 ∧ (n9.toNat) < y6.length)) <|
     let y7 := asI (resC y5 0 0)
     let y8 := stR y6 (n9.toNat) 2 [.i .i64 y7]
     chk (decide (0 ≤ n9) && decide (n9 < y8.length)) <|
     let y9 := y8.getD (n9.toNat) []
     let y10 := asL (nthD y9 3)
     let y11 := t46 y10 (w64 (y7 + (1 : Int)))
     chk (okR zr46 zo46 y11 && (decide (3 + 1 ≤ y9.length) && isF [.l []] 3 y9 && fstSz 5 y10)) <|
     let y12 := stR y8 (n9.toNat) 3 [.l (asL (outC y11 0 0))]
     chk (decide (0 ≤ n9) && decide (n9 < y12.length)) <|
     let y13 := y12.getD (n9.toNat) []
     let y14 := asL (nthD y13 4)
     let y15 := t47 y14 (asI (resC y11 0 0))
     chk (okR zr47 zo47 y15 && (decide (4 + 1 ≤ y13.length) && isF [.l []] 4 y13 && fstSz 5 y14)) <|
     la20o0 t46 t47 t51 n8 q1 m (asI (resC y15 0 0)) (w64 (n9 + (1 : Int))) (.d (.b y1)) (stR y12 (n9.toNat) 4 [.l (asL (outC y15 0 0))])
    else
     q1 n7 n9 y1 l11
def ta20 (t46 : List (List D) → Int → Rs) (t47 : List (List D) → Int → Rs) (t51 : List (List D) → Int → Rs) (l1 : List (List D)) (n2 : Int) : Rs :=
  la20o0 t46 t47 t51 (0 : Int)
   (fun (n21 : Int) (n22 : Int) (b23 : Bool) (l24 : List (List D)) =>
    some ([.one (.i .i64 n21)], [[.l l24]])) KK n2 (0 : Int) SV.undef l1
theorem te20 : ta20 tu46 tu47 tu51 = t20 := (by rw [tu46_eq, tu47_eq, tu51_eq] : ta20 tu46 tu47 tu51 = ta20 t46 t47 t51).trans (by kernel_rfl)
def tw20 (vs : List Vr) : Rs := ta20 tu46 tu47 tu51 (vL vs 0) (vI vs 1)
def tp20 (vs : List Vr) : Rs := tu20 (vL vs 0) (vI vs 1)
theorem tpw20 : tp20 = tw20 := funext fun vs => by unfold tp20 tw20; rw [tu20_eq, te20]
def th20 (xs : List DV) : Bool × List DV × List (List D) := gOf zr20 zo20 (argsT A20 tp20 xs)
def la88o0 (t86 : Int → Rs) (l7 : List (List D)) (n9 : Int) (q1 : Int → Int → Bool → Bool → SV → Rs) (q2 : Int → Int → Bool → Bool → Bool → Rs) (q3 : Int → Int → Bool → SV → SV → Rs) : Nat → Int → Int → SV → SV → SV → Rs
  | 0, _, _, _, _, _ => none
  | m + 1, n8, n10, v11, v12, v13 =>
    let y1 := decide (n10 < (l7.length : Int))
    if y1 then
     let y2 := l7.getD n10.toNat []
     chk (decide (0 ≤ n10) && decide (n10 < l7.length) && isRow z129 y2) <|
     chk (okR zr86 zo86 (t86 n8)) <|
     let y3 := !((asS (nthD y2 0)).toList == (asS (resC (t86 n8) 0 0)).toList)
     if y3 then
      q1 n8 n10 y1 y3 v13
     else
      let y4 := l7.getD n10.toNat []
      chk (decide (0 ≤ n10) && decide (n10 < l7.length) && isRow z129 y4) <|
      let y5 := w64 (n8 + (1 : Int))
      let y6 := (asI (nthD y4 1)) != y5
      if y6 then
       q2 y5 n10 y1 y3 y6
      else
       la88o0 t86 l7 n9 q1 q2 q3 m (w64 (y5 + (1 : Int))) (w64 (n10 + (1 : Int))) (.d (.b y1)) (.d (.b y3)) (.d (.b y6))
    else
     q3 n8 n10 y1 (keepV [] v12) (keepV [] v13)
def ta88 (t86 : Int → Rs) (l1 : List (List D)) (n2 : Int) : Rs :=
  la88o0 t86 l1 (0 : Int)
   (fun (n36 : Int) (n37 : Int) (b38 : Bool) (b39 : Bool) (v40 : SV) =>
    some ([.one (.i .i64 (-1 : Int))], []))
   (fun (n41 : Int) (n42 : Int) (b43 : Bool) (b44 : Bool) (b45 : Bool) =>
    some ([.one (.i .i64 (-1 : Int))], []))
   (fun (n46 : Int) (n47 : Int) (b48 : Bool) (v49 : SV) (v50 : SV) =>
    some ([.one (.i .i64 n46)], [])) KK n2 (0 : Int) SV.undef SV.undef SV.undef
theorem te88 : ta88 tu86 = t88 := (by rw [tu86_eq] : ta88 tu86 = ta88 t86).trans (by kernel_rfl)
def tw88 (vs : List Vr) : Rs := ta88 tu86 (vL vs 0) (vI vs 1)
def tp88 (vs : List Vr) : Rs := tu88 (vL vs 0) (vI vs 1)
theorem tpw88 : tp88 = tw88 := funext fun vs => by unfold tp88 tw88; rw [tu88_eq, te88]
def th88 (xs : List DV) : Bool × List DV × List (List D) := gOf zr88 zo88 (argsT A88 tp88 xs)
def la52o0 (t86 : Int → Rs) (t88 : List (List D) → Int → Rs) (l7 : List (List D)) (n9 : Int) (q1 : Int → Int → Bool → Bool → SV → SV → SV → SV → SV → SV → SV → SV → Rs) (q2 : Int → Int → Bool → Bool → Bool → SV → SV → SV → SV → SV → SV → SV → Rs) (q3 : Int → Int → Bool → Bool → Bool → Bool → SV → SV → SV → SV → SV → SV → Rs) (q4 : Int → Int → Bool → Bool → Bool → Bool → Bool → SV → SV → SV → SV → SV → Rs) (q5 : Int → Int → Bool → Bool → Bool → Bool → Bool → Bool → SV → SV → SV → SV → Rs) (q6 : Int → Int → Bool → Bool → Bool → Bool → Bool → Bool → Bool → SV → SV → SV → Rs) (q7 : Int → Int → Bool → Bool → Bool → Bool → Bool → Bool → Bool → Bool → SV → SV → Rs) (q8 : Int → Int → Bool → Bool → Bool → Bool → Bool → Bool → Bool → Bool → Bool → SV → Rs) (q9 : Int → Int → Bool → Bool → Bool → Bool → Bool → Bool → Bool → Bool → Bool → Bool → Rs) (q10 : Int → Int → Bool → SV → SV → SV → SV → SV → SV → SV → SV → SV → Rs) : Nat → Int → Int → SV → SV → SV → SV → SV → SV → SV → SV → SV → SV → Rs
  | 0, _, _, _, _, _, _, _, _, _, _, _, _ => none
  | m + 1, n8, n10, v11, v12, v13, v14, v15, v16, v17, v18, v19, v20 =>
    let y1 := decide (n10 < (l7.length : Int))
    if y1 then
     let y2 := l7.getD n10.toNat []
     chk (decide (0 ≤ n10) && decide (n10 < l7.length) && isRow z64 y2) <|
     let y3 := (asI (nthD y2 0)) != n8
     if y3 then
      q1 n8 n10 y1 y3 v13 v14 v15 v16 v17 v18 v19 v20
     else
      let y4 := l7.getD n10.toNat []
      chk (decide (0 ≤ n10) && decide (n10 < l7.length) && isRow z64 y4) <|
      let y5 := w64 (n8 + (1 : Int))
      let y6 := (asI (nthD y4 1)) != y5
      if y6 then
       q2 y5 n10 y1 y3 y6 v14 v15 v16 v17 v18 v19 v20
      else
       let y7 := l7.getD n10.toNat []
       chk (decide (0 ≤ n10) && decide (n10 < l7.length) && isRow z64 y7) <|
       let y8 := w64 (y5 + (1 : Int))
       let y9 := (asI (nthD y7 2)) != y8
       if y9 then
        q3 y8 n10 y1 y3 y6 y9 v15 v16 v17 v18 v19 v20
       else
        let y10 := l7.getD n10.toNat []
        chk (decide (0 ≤ n10) && decide (n10 < l7.length) && isRow z64 y10) <|
        let y11 := w64 (y8 + (1 : Int))
        let y12 := (asI (nthD y10 3)) != y11
        if y12 then
         q4 y11 n10 y1 y3 y6 y9 y12 v16 v17 v18 v19 v20
        else
         let y13 := l7.getD n10.toNat []
         chk (decide (0 ≤ n10) && decide (n10 < l7.length) && isRow z64 y13) <|
         let y14 := w64 (y11 + (1 : Int))
         let y15 := (asI (nthD y13 4)) != y14
         if y15 then
          q5 y14 n10 y1 y3 y6 y9 y12 y15 v17 v18 v19 v20
         else
          let y16 := l7.getD n10.toNat []
          chk (decide (0 ≤ n10) && decide (n10 < l7.length) && isRow z64 y16) <|
          let y17 := w64 (y14 + (1 : Int))
          let y18 := t86 y17
          chk (okR zr86 zo86 y18) <|
          let y19 := !((asS (nthD y16 5)).toList == (asS (resC y18 0 0)).toList)
          if y19 then
           q6 y17 n10 y1 y3 y6 y9 y12 y15 y19 v18 v19 v20
          else
           let y20 := l7.getD n10.toNat []
           chk (decide (0 ≤ n10) && decide (n10 < l7.length) && isRow z64 y20) <|
           let y21 := t88 (asL (nthD y20 6)) (w64 (y17 + (1 : Int)))
           chk (okR zr88 zo88 y21) <|
           let y22 := asI (resC y21 0 0)
           let y23 := decide (y22 < (0 : Int))
           if y23 then
            q7 y22 n10 y1 y3 y6 y9 y12 y15 y19 y23 v19 v20
           else
            let y24 := l7.getD n10.toNat []
            chk (decide (0 ≤ n10) && decide (n10 < l7.length) && isRow z64 y24) <|
            let y25 := (asI (nthD y24 7)) != y22
            if y25 then
             q8 y22 n10 y1 y3 y6 y9 y12 y15 y19 y23 y25 v20
            else
             let y26 := l7.getD n10.toNat []
             chk (decide (0 ≤ n10) && decide (n10 < l7.length) && isRow z64 y26) <|
             let y27 := w64 (y22 + (1 : Int))
             let y28 := (asI (nthD y26 8)) != y27
             if y28 then
              q9 y27 n10 y1 y3 y6 y9 y12 y15 y19 y23 y25 y28
             else
              la52o0 t86 t88 l7 n9 q1 q2 q3 q4 q5 q6 q7 q8 q9 q10 m (w64 (y27 + (1 : Int))) (w64 (n10 + (1 : Int))) (.d (.b y1)) (.d (.b y3)) (.d (.b y6)) (.d (.b y9)) (.d (.b y12)) (.d (.b y15)) (.d (.b y19)) (.d (.b y23)) (.d (.b y25)) (.d (.b y28))
    else
     q10 n8 n10 y1 (keepV [] v12) (keepV [] v13) (keepV [] v14) (keepV [] v15) (keepV [] v16) (keepV [] v17) (keepV [] v18) (keepV [] v19) (keepV [] v20)
def ta52 (t86 : Int → Rs) (t88 : List (List D) → Int → Rs) (l1 : List (List D)) (n2 : Int) : Rs :=
  la52o0 t86 t88 l1 (0 : Int)
   (fun (n155 : Int) (n156 : Int) (b157 : Bool) (b158 : Bool) (v159 : SV) (v160 : SV) (v161 : SV) (v162 : SV) (v163 : SV) (v164 : SV) (v165 : SV) (v166 : SV) =>
    some ([.one (.i .i64 (-1 : Int))], []))
   (fun (n167 : Int) (n168 : Int) (b169 : Bool) (b170 : Bool) (b171 : Bool) (v172 : SV) (v173 : SV) (v174 : SV) (v175 : SV) (v176 : SV) (v177 : SV) (v178 : SV) =>
    some ([.one (.i .i64 (-1 : Int))], []))
   (fun (n179 : Int) (n180 : Int) (b181 : Bool) (b182 : Bool) (b183 : Bool) (b184 : Bool) (v185 : SV) (v186 : SV) (v187 : SV) (v188 : SV) (v189 : SV) (v190 : SV) =>
    some ([.one (.i .i64 (-1 : Int))], []))
   (fun (n191 : Int) (n192 : Int) (b193 : Bool) (b194 : Bool) (b195 : Bool) (b196 : Bool) (b197 : Bool) (v198 : SV) (v199 : SV) (v200 : SV) (v201 : SV) (v202 : SV) =>
    some ([.one (.i .i64 (-1 : Int))], []))
   (fun (n203 : Int) (n204 : Int) (b205 : Bool) (b206 : Bool) (b207 : Bool) (b208 : Bool) (b209 : Bool) (b210 : Bool) (v211 : SV) (v212 : SV) (v213 : SV) (v214 : SV) =>
    some ([.one (.i .i64 (-1 : Int))], []))
   (fun (n215 : Int) (n216 : Int) (b217 : Bool) (b218 : Bool) (b219 : Bool) (b220 : Bool) (b221 : Bool) (b222 : Bool) (b223 : Bool) (v224 : SV) (v225 : SV) (v226 : SV) =>
    some ([.one (.i .i64 (-1 : Int))], []))
   (fun (n227 : Int) (n228 : Int) (b229 : Bool) (b230 : Bool) (b231 : Bool) (b232 : Bool) (b233 : Bool) (b234 : Bool) (b235 : Bool) (b236 : Bool) (v237 : SV) (v238 : SV) =>
    some ([.one (.i .i64 (-1 : Int))], []))
   (fun (n239 : Int) (n240 : Int) (b241 : Bool) (b242 : Bool) (b243 : Bool) (b244 : Bool) (b245 : Bool) (b246 : Bool) (b247 : Bool) (b248 : Bool) (b249 : Bool) (v250 : SV) =>
    some ([.one (.i .i64 (-1 : Int))], []))
   (fun (n251 : Int) (n252 : Int) (b253 : Bool) (b254 : Bool) (b255 : Bool) (b256 : Bool) (b257 : Bool) (b258 : Bool) (b259 : Bool) (b260 : Bool) (b261 : Bool) (b262 : Bool) =>
    some ([.one (.i .i64 (-1 : Int))], []))
   (fun (n263 : Int) (n264 : Int) (b265 : Bool) (v266 : SV) (v267 : SV) (v268 : SV) (v269 : SV) (v270 : SV) (v271 : SV) (v272 : SV) (v273 : SV) (v274 : SV) =>
    some ([.one (.i .i64 n263)], [])) KK n2 (0 : Int) SV.undef SV.undef SV.undef SV.undef SV.undef SV.undef SV.undef SV.undef SV.undef SV.undef
theorem te52 : ta52 tu86 tu88 = t52 := (by rw [tu86_eq, tu88_eq] : ta52 tu86 tu88 = ta52 t86 t88).trans (by kernel_rfl)
def tw52 (vs : List Vr) : Rs := ta52 tu86 tu88 (vL vs 0) (vI vs 1)
def tp52 (vs : List Vr) : Rs := tu52 (vL vs 0) (vI vs 1)
theorem tpw52 : tp52 = tw52 := funext fun vs => by unfold tp52 tw52; rw [tu52_eq, te52]
def th52 (xs : List DV) : Bool × List DV × List (List D) := gOf zr52 zo52 (argsT A52 tp52 xs)
theorem te49 : t49 = t49 := rfl
def tw49 (vs : List Vr) : Rs := t49 (vL vs 0) (vI vs 1)
def tp49 (vs : List Vr) : Rs := tu49 (vL vs 0) (vI vs 1)
theorem tpw49 : tp49 = tw49 := funext fun vs => by unfold tp49 tw49; rw [tu49_eq, te49]
def th49 (xs : List DV) : Bool × List DV × List (List D) := gOf zr49 zo49 (argsT A49 tp49 xs)
def la50o0 (t86 : Int → Rs) (l7 : List (List D)) (n9 : Int) (q1 : Int → Int → Bool → Bool → SV → SV → SV → SV → Rs) (q2 : Int → Int → Bool → Bool → Bool → SV → SV → SV → Rs) (q3 : Int → Int → Bool → Bool → Bool → Bool → SV → SV → Rs) (q4 : Int → Int → Bool → Bool → Bool → Bool → Bool → SV → Rs) (q5 : Int → Int → Bool → Bool → Bool → Bool → Bool → Bool → Rs) (q6 : Int → Int → Bool → SV → SV → SV → SV → SV → Rs) : Nat → Int → Int → SV → SV → SV → SV → SV → SV → Rs
  | 0, _, _, _, _, _, _, _, _ => none
  | m + 1, n8, n10, v11, v12, v13, v14, v15, v16 =>
    let y1 := decide (n10 < (l7.length : Int))
    if y1 then
     let y2 := l7.getD n10.toNat []
     chk (decide (0 ≤ n10) && decide (n10 < l7.length) && isRow z81 y2) <|
     let y3 := (asI (nthD y2 0)) != n8
     if y3 then
      q1 n8 n10 y1 y3 v13 v14 v15 v16
     else
      let y4 := l7.getD n10.toNat []
      chk (decide (0 ≤ n10) && decide (n10 < l7.length) && isRow z81 y4) <|
      let y5 := w64 (n8 + (1 : Int))
      let y6 := (asI (nthD y4 1)) != y5
      if y6 then
       q2 y5 n10 y1 y3 y6 v14 v15 v16
      else
       let y7 := l7.getD n10.toNat []
       chk (decide (0 ≤ n10) && decide (n10 < l7.length) && isRow z81 y7) <|
       let y8 := w64 (y5 + (1 : Int))
       let y9 := (asI (nthD y7 2)) != y8
       if y9 then
        q3 y8 n10 y1 y3 y6 y9 v15 v16
       else
        let y10 := l7.getD n10.toNat []
        chk (decide (0 ≤ n10) && decide (n10 < l7.length) && isRow z81 y10) <|
        let y11 := w64 (y8 + (1 : Int))
        let y12 := (asI (nthD y10 3)) != y11
        if y12 then
         q4 y11 n10 y1 y3 y6 y9 y12 v16
        else
         let y13 := l7.getD n10.toNat []
         chk (decide (0 ≤ n10) && decide (n10 < l7.length) && isRow z81 y13) <|
         let y14 := w64 (y11 + (1 : Int))
         let y15 := t86 y14
         chk (okR zr86 zo86 y15) <|
         let y16 := !((asS (nthD y13 4)).toList == (asS (resC y15 0 0)).toList)
         if y16 then
          q5 y14 n10 y1 y3 y6 y9 y12 y16
         else
          la50o0 t86 l7 n9 q1 q2 q3 q4 q5 q6 m (w64 (y14 + (1 : Int))) (w64 (n10 + (1 : Int))) (.d (.b y1)) (.d (.b y3)) (.d (.b y6)) (.d (.b y9)) (.d (.b y12)) (.d (.b y16))
    else
     q6 n8 n10 y1 (keepV [] v12) (keepV [] v13) (keepV [] v14) (keepV [] v15) (keepV [] v16)
def ta50 (t86 : Int → Rs) (l1 : List (List D)) (n2 : Int) : Rs :=
  la50o0 t86 l1 (0 : Int)
   (fun (n75 : Int) (n76 : Int) (b77 : Bool) (b78 : Bool) (v79 : SV) (v80 : SV) (v81 : SV) (v82 : SV) =>
    some ([.one (.i .i64 (-1 : Int))], []))
   (fun (n83 : Int) (n84 : Int) (b85 : Bool) (b86 : Bool) (b87 : Bool) (v88 : SV) (v89 : SV) (v90 : SV) =>
    some ([.one (.i .i64 (-1 : Int))], []))
   (fun (n91 : Int) (n92 : Int) (b93 : Bool) (b94 : Bool) (b95 : Bool) (b96 : Bool) (v97 : SV) (v98 : SV) =>
    some ([.one (.i .i64 (-1 : Int))], []))
   (fun (n99 : Int) (n100 : Int) (b101 : Bool) (b102 : Bool) (b103 : Bool) (b104 : Bool) (b105 : Bool) (v106 : SV) =>
    some ([.one (.i .i64 (-1 : Int))], []))
   (fun (n107 : Int) (n108 : Int) (b109 : Bool) (b110 : Bool) (b111 : Bool) (b112 : Bool) (b113 : Bool) (b114 : Bool) =>
    some ([.one (.i .i64 (-1 : Int))], []))
   (fun (n115 : Int) (n116 : Int) (b117 : Bool) (v118 : SV) (v119 : SV) (v120 : SV) (v121 : SV) (v122 : SV) =>
    some ([.one (.i .i64 n115)], [])) KK n2 (0 : Int) SV.undef SV.undef SV.undef SV.undef SV.undef SV.undef
theorem te50 : ta50 tu86 = t50 := (by rw [tu86_eq] : ta50 tu86 = ta50 t86).trans (by kernel_rfl)
def tw50 (vs : List Vr) : Rs := ta50 tu86 (vL vs 0) (vI vs 1)
def tp50 (vs : List Vr) : Rs := tu50 (vL vs 0) (vI vs 1)
theorem tpw50 : tp50 = tw50 := funext fun vs => by unfold tp50 tw50; rw [tu50_eq, te50]
def th50 (xs : List DV) : Bool × List DV × List (List D) := gOf zr50 zo50 (argsT A50 tp50 xs)
def la21o0 (t49 : List (List D) → Int → Rs) (t50 : List (List D) → Int → Rs) (t52 : List (List D) → Int → Rs) (l7 : List (List D)) (n9 : Int) (q1 : Int → Int → Bool → Bool → SV → SV → SV → SV → Rs) (q2 : Int → Int → Bool → Bool → Bool → SV → SV → SV → Rs) (q3 : Int → Int → Bool → Bool → Bool → Bool → SV → SV → Rs) (q4 : Int → Int → Bool → Bool → Bool → Bool → Bool → SV → Rs) (q5 : Int → Int → Bool → Bool → Bool → Bool → Bool → Bool → Rs) (q6 : Int → Int → Bool → SV → SV → SV → SV → SV → Rs) : Nat → Int → Int → SV → SV → SV → SV → SV → SV → Rs
  | 0, _, _, _, _, _, _, _, _ => none
  | m + 1, n8, n10, v11, v12, v13, v14, v15, v16 =>
    let y1 := decide (n10 < (l7.length : Int))
    if y1 then
     let y2 := l7.getD n10.toNat []
     chk (decide (0 ≤ n10) && decide (n10 < l7.length) && isRow z28 y2) <|
     let y3 := (asI (nthD y2 0)) != n8
     if y3 then
      q1 n8 n10 y1 y3 v13 v14 v15 v16
     else
      let y4 := l7.getD n10.toNat []
      chk (decide (0 ≤ n10) && decide (n10 < l7.length) && isRow z28 y4) <|
      let y5 := t52 (asL (nthD y4 1)) (w64 (n8 + (1 : Int)))
      chk (okR zr52 zo52 y5) <|
      let y6 := asI (resC y5 0 0)
      let y7 := decide (y6 < (0 : Int))
      if y7 then
       q2 y6 n10 y1 y3 y7 v14 v15 v16
      else
       let y8 := l7.getD n10.toNat []
       chk (decide (0 ≤ n10) && decide (n10 < l7.length) && isRow z28 y8) <|
       let y9 := (asI (nthD y8 2)) != y6
       if y9 then
        q3 y6 n10 y1 y3 y7 y9 v15 v16
       else
        let y10 := l7.getD n10.toNat []
        chk (decide (0 ≤ n10) && decide (n10 < l7.length) && isRow z28 y10) <|
        let y11 := t49 (asL (nthD y10 3)) (w64 (y6 + (1 : Int)))
        chk (okR zr49 zo49 y11) <|
        let y12 := asI (resC y11 0 0)
        let y13 := decide (y12 < (0 : Int))
        if y13 then
         q4 y12 n10 y1 y3 y7 y9 y13 v16
        else
         let y14 := l7.getD n10.toNat []
         chk (decide (0 ≤ n10) && decide (n10 < l7.length) && isRow z28 y14) <|
         let y15 := t50 (asL (nthD y14 4)) y12
         chk (okR zr50 zo50 y15) <|
         let y16 := asI (resC y15 0 0)
         let y17 := decide (y16 < (0 : Int))
         if y17 then
          q5 y16 n10 y1 y3 y7 y9 y13 y17
         else
          la21o0 t49 t50 t52 l7 n9 q1 q2 q3 q4 q5 q6 m y16 (w64 (n10 + (1 : Int))) (.d (.b y1)) (.d (.b y3)) (.d (.b y7)) (.d (.b y9)) (.d (.b y13)) (.d (.b y17))
    else
     q6 n8 n10 y1 (keepV [] v12) (keepV [] v13) (keepV [] v14) (keepV [] v15) (keepV [] v16)
def ta21 (t49 : List (List D) → Int → Rs) (t50 : List (List D) → Int → Rs) (t52 : List (List D) → Int → Rs) (l1 : List (List D)) (n2 : Int) : Rs :=
  la21o0 t49 t50 t52 l1 (0 : Int)
   (fun (n75 : Int) (n76 : Int) (b77 : Bool) (b78 : Bool) (v79 : SV) (v80 : SV) (v81 : SV) (v82 : SV) =>
    some ([.one (.i .i64 (-1 : Int))], []))
   (fun (n83 : Int) (n84 : Int) (b85 : Bool) (b86 : Bool) (b87 : Bool) (v88 : SV) (v89 : SV) (v90 : SV) =>
    some ([.one (.i .i64 (-1 : Int))], []))
   (fun (n91 : Int) (n92 : Int) (b93 : Bool) (b94 : Bool) (b95 : Bool) (b96 : Bool) (v97 : SV) (v98 : SV) =>
    some ([.one (.i .i64 (-1 : Int))], []))
   (fun (n99 : Int) (n100 : Int) (b101 : Bool) (b102 : Bool) (b103 : Bool) (b104 : Bool) (b105 : Bool) (v106 : SV) =>
    some ([.one (.i .i64 (-1 : Int))], []))
   (fun (n107 : Int) (n108 : Int) (b109 : Bool) (b110 : Bool) (b111 : Bool) (b112 : Bool) (b113 : Bool) (b114 : Bool) =>
    some ([.one (.i .i64 (-1 : Int))], []))
   (fun (n115 : Int) (n116 : Int) (b117 : Bool) (v118 : SV) (v119 : SV) (v120 : SV) (v121 : SV) (v122 : SV) =>
    some ([.one (.i .i64 n115)], [])) KK n2 (0 : Int) SV.undef SV.undef SV.undef SV.undef SV.undef SV.undef
theorem te21 : ta21 tu49 tu50 tu52 = t21 := (by rw [tu49_eq, tu50_eq, tu52_eq] : ta21 tu49 tu50 tu52 = ta21 t49 t50 t52).trans (by kernel_rfl)
def tw21 (vs : List Vr) : Rs := ta21 tu49 tu50 tu52 (vL vs 0) (vI vs 1)
def tp21 (vs : List Vr) : Rs := tu21 (vL vs 0) (vI vs 1)
theorem tpw21 : tp21 = tw21 := funext fun vs => by unfold tp21 tw21; rw [tu21_eq, te21]
def th21 (xs : List DV) : Bool × List DV × List (List D) := gOf zr21 zo21 (argsT A21 tp21 xs)
def ta4 (t17 : Rs) (t18 : Rs) (t19 : List (List D) → List (List D) → Rs) (t20 : List (List D) → Int → Rs) (t21 : List (List D) → Int → Rs) : Rs :=
  chk (okR zr17 zo17 t17) <|
  chk (okR zr18 zo18 t18) <|
  let y1 := asL (resC t18 0 0)
  let y2 := asL (resC t17 0 0)
  let y3 := t19 y1 y2
  chk (okR zr19 zo19 y3) <|
  if !(asB (resC y3 0 0)) then
   some ([.one (.b false)], [])
  else
   let y4 := t20 y1 (1 : Int)
   chk (okR zr20 zo20 y4) <|
   let y5 := asL (outC y4 0 0)
   let y6 := t21 y5 (1 : Int)
   chk (okR zr21 zo21 y6) <|
   let y7 := asI (resC y6 0 0)
   if decide (y7 < (0 : Int)) then
    some ([.one (.b false)], [])
   else
    let y8 := asI (resC y4 0 0)
    if y7 != y8 then
     some ([.one (.b false)], [])
    else
     chk (okR zr18 zo18 t18) <|
     let y9 := t19 (asL (resC t18 0 0)) y2
     chk (okR zr19 zo19 y9) <|
     if !(asB (resC y9 0 0)) then
      some ([.one (.b false)], [])
     else
      let y10 := t21 y5 (1 : Int)
      chk (okR zr21 zo21 y10) <|
      let y11 := asI (resC y10 0 0)
      if decide (y11 < (0 : Int)) then
       some ([.one (.b false)], [])
      else
       if y11 != y8 then
        some ([.one (.b false)], [])
       else
        some ([.one (.b true)], [])
theorem te4 : ta4 tu17 tu18 tu19 tu20 tu21 = t4 := (by rw [tu17_eq, tu18_eq, tu19_eq, tu20_eq, tu21_eq] : ta4 tu17 tu18 tu19 tu20 tu21 = ta4 t17 t18 t19 t20 t21).trans (by kernel_rfl)
def tw4 (vs : List Vr) : Rs := ta4 tu17 tu18 tu19 tu20 tu21
def tp4 (vs : List Vr) : Rs := tu4
theorem tpw4 : tp4 = tw4 := funext fun vs => by unfold tp4 tw4; rw [tu4_eq, te4]
def th4 (xs : List DV) : Bool × List DV × List (List D) := gOf zr4 zo4 (argsT A4 tp4 xs)
def sg40 : Sig := ⟨[], .fresh [[none, some (64, 9)]], [0], []⟩
def sg12 : Sig := ⟨[], .fresh [[none, some (64, 9), none, some (90, 5), some (81, 5)]], [0, 1], []⟩
def sg17 : Sig := ⟨[], .fresh [[some (28, 5)]], [0, 1, 2, 5], []⟩
def sg41 : Sig := ⟨[], .fresh [[none, some (64, 9)]], [0], []⟩
def sg13 : Sig := ⟨[], .fresh [[none, some (64, 9), none, some (90, 5), some (81, 5)]], [0, 1], []⟩
def sg18 : Sig := ⟨[], .fresh [[some (28, 5)]], [0, 1, 3, 4], []⟩
def sg143 : Sig := ⟨[.bor, .bor], .sc [.one (.b false)], [0, 1, 2, 3, 4, 9, 14], []⟩
def sg137 : Sig := ⟨[.bor, .bor], .sc [.one (.b false)], [0, 1, 4, 5, 10, 14, 26], [(6, [(0, 0, []), (1, 0, []), (2, 0, []), (3, 0, []), (4, 0, []), (5, 0, []), (6, 0, []), (7, 0, []), (8, 0, []), (9, 0, [])])]⟩
def sg120 : Sig := ⟨[.bor, .bor], .sc [.one (.b false)], [0, 1, 2, 3, 4, 9, 14, 19, 24, 29, 34, 40, 45, 50], []⟩
def sg83 : Sig := ⟨[.bor, .bor], .sc [.one (.b false)], [0, 1, 4, 5, 10, 14, 26], [(6, [(0, 0, []), (1, 0, []), (2, 0, []), (3, 0, []), (4, 0, []), (5, 0, []), (6, 0, []), (7, 0, []), (8, 0, []), (9, 0, [])])]⟩
def sg42 : Sig := ⟨[.bor, .bor], .sc [.one (.b false)], [0, 1, 2, 3, 4, 9, 15], []⟩
def sg84 : Sig := ⟨[.bor, .bor], .sc [.one (.b false)], [0, 1, 2, 3, 4, 9, 14, 19, 24, 29], []⟩
def sg43 : Sig := ⟨[.bor, .bor], .sc [.one (.b false)], [0, 1, 4, 5, 10, 14, 26], [(6, [(0, 0, []), (1, 0, []), (2, 0, []), (3, 0, []), (4, 0, []), (5, 0, []), (6, 0, []), (7, 0, []), (8, 0, []), (9, 0, [])])]⟩
def sg121 : Sig := ⟨[.bor, .bor], .sc [.one (.b false)], [0, 1, 2, 3, 4, 9, 14], []⟩
def sg85 : Sig := ⟨[.bor, .bor], .sc [.one (.b false)], [0, 1, 2, 3, 4, 9, 14, 19, 25], []⟩
def sg44 : Sig := ⟨[.bor, .bor], .sc [.one (.b false)], [0, 1, 4, 5, 10, 14, 26], [(6, [(0, 0, []), (1, 0, []), (2, 0, []), (3, 0, []), (4, 0, []), (5, 0, []), (6, 0, []), (7, 0, []), (8, 0, []), (9, 0, [])])]⟩
def sg14 : Sig := ⟨[.bor, .bor], .sc [.one (.b false)], [0, 1, 2, 3, 4, 10, 15, 21, 27], []⟩
def sg19 : Sig := ⟨[.bor, .bor], .sc [.one (.b false)], [0, 1, 4, 5, 10, 14, 26], [(6, [(0, 0, []), (1, 0, []), (2, 0, []), (3, 0, []), (4, 0, []), (5, 0, []), (6, 0, []), (7, 0, []), (8, 0, []), (9, 0, [])])]⟩
def sg86 : Sig := ⟨[.bor], .sc [.one (.s ⟨#[]⟩)], [0, 2, 3, 5, 7], []⟩
def sg87 : Sig := ⟨[.io [some (999999999, 2)], .bor], .sc [.one (.i .i64 0)], [0, 1, 4, 5, 9], []⟩
def sg51 : Sig := ⟨[.io [some (999999999, 9)], .bor], .sc [.one (.i .i64 0)], [0, 1, 4, 5, 9], []⟩
def sg46 : Sig := ⟨[.io [some (999999999, 5)], .bor], .sc [.one (.i .i64 0)], [0, 1, 4, 5, 9], []⟩
def sg47 : Sig := ⟨[.io [some (999999999, 5)], .bor], .sc [.one (.i .i64 0)], [0, 1, 4, 5, 9], []⟩
def sg20 : Sig := ⟨[.io [some (999999999, 5)], .bor], .sc [.one (.i .i64 0)], [0, 1, 4, 5, 9], []⟩
def sg88 : Sig := ⟨[.bor, .bor], .sc [.one (.i .i64 0)], [0, 1, 4, 5, 9, 19, 28], [(4, [(0, 0, []), (1, 0, []), (2, 0, []), (3, 0, []), (4, 0, []), (5, 0, []), (6, 0, []), (7, 0, [])])]⟩
def sg52 : Sig := ⟨[.bor, .bor], .sc [.one (.i .i64 0)], [0, 1, 4, 5, 9, 18, 27, 36, 45, 54, 64, 75, 82, 91], [(19, [(0, 0, []), (1, 0, []), (2, 0, []), (3, 0, []), (4, 0, []), (5, 0, []), (6, 0, []), (7, 0, [])])]⟩
def sg49 : Sig := ⟨[.bor, .bor], .sc [.one (.i .i64 0)], [0, 1, 4, 5, 9, 18, 27, 36, 45, 54], []⟩
def sg50 : Sig := ⟨[.bor, .bor], .sc [.one (.i .i64 0)], [0, 1, 4, 5, 9, 18, 27, 36, 46, 57], [(16, [(0, 0, []), (1, 0, []), (2, 0, []), (3, 0, []), (4, 0, []), (5, 0, []), (6, 0, []), (7, 0, []), (8, 0, [])])]⟩
def sg21 : Sig := ⟨[.bor, .bor], .sc [.one (.i .i64 0)], [0, 1, 4, 5, 9, 19, 31, 38, 49, 58], []⟩
def sg4 : Sig := ⟨[], .sc [.one (.b false)], [0, 1, 2, 3, 4, 5, 11, 19, 22, 27, 32, 35], []⟩
def sig : Nat → Sig := lkF ⟨[], .fresh [], [], []⟩ [(40, sg40), (12, sg12), (17, sg17), (41, sg41), (13, sg13), (18, sg18), (143, sg143), (137, sg137), (120, sg120), (83, sg83), (42, sg42), (84, sg84), (43, sg43), (121, sg121), (85, sg85), (44, sg44), (14, sg14), (19, sg19), (86, sg86), (87, sg87), (51, sg51), (46, sg46), (47, sg47), (20, sg20), (88, sg88), (52, sg52), (49, sg49), (50, sg50), (21, sg21), (4, sg4)]
def dep : Nat → Nat := lkF 0 [(40, 1), (12, 2), (17, 3), (41, 1), (13, 2), (18, 3), (143, 1), (137, 2), (120, 3), (83, 4), (42, 5), (84, 1), (43, 2), (121, 1), (85, 2), (44, 3), (14, 6), (19, 7), (86, 1), (87, 2), (51, 3), (46, 1), (47, 2), (20, 4), (88, 2), (52, 3), (49, 1), (50, 2), (21, 4), (4, 8)]
def gT : List (Nat × (List DV → Bool × List DV × List (List D))) := [(40, th40), (12, th12), (17, th17), (41, th41), (13, th13), (18, th18), (143, th143), (137, th137), (120, th120), (83, th83), (42, th42), (84, th84), (43, th43), (121, th121), (85, th85), (44, th44), (14, th14), (19, th19), (86, th86), (87, th87), (51, th51), (46, th46), (47, th47), (20, th20), (88, th88), (52, th52), (49, th49), (50, th50), (21, th21), (4, th4)]
def G : Nat → List DV → Bool × List DV × List (List D) := lkF (fun _ => (false, [], [])) gT
noncomputable def C40 : Ctx := ⟨Try.prog, sig, Gd G dep (dep 40), (sig 40).keep, (sig 40).ord⟩
noncomputable def c40 : Code := Try.f40.body.getD .skip
def ST40 : List (Nat × (St → Cont (List DV × List (List D)) → Rs)) := []
theorem r40 : ∀ vs, tw40 vs = bodyK C40 (lkS ST40) Try.f40 (sig 40) c40 (fillAs A40 0 vs) := fun vs => by kernel_rfl
theorem ok40 : ∀ xs q, opt (th40 xs) = some q → evalBody Try.prog sig (Gd G dep (dep 40)) KK 40 xs = some q := fun xs q h => body_ok Try.func40 (c := c40) rfl A40 tw40 (sums_of (C := C40) (t := ST40) trivial) r40 (by rw [← tpw40]; exact opt_gOf h)
noncomputable def C12 : Ctx := ⟨Try.prog, sig, Gd G dep (dep 12), (sig 12).keep, (sig 12).ord⟩
noncomputable def c12 : Code := Try.f12.body.getD .skip
def ST12 : List (Nat × (St → Cont (List DV × List (List D)) → Rs)) := []
theorem r12 : ∀ vs, tw12 vs = bodyK C12 (lkS ST12) Try.f12 (sig 12) c12 (fillAs A12 0 vs) := fun vs => by kernel_rfl
theorem ok12 : ∀ xs q, opt (th12 xs) = some q → evalBody Try.prog sig (Gd G dep (dep 12)) KK 12 xs = some q := fun xs q h => body_ok Try.func12 (c := c12) rfl A12 tw12 (sums_of (C := C12) (t := ST12) trivial) r12 (by rw [← tpw12]; exact opt_gOf h)
noncomputable def C17 : Ctx := ⟨Try.prog, sig, Gd G dep (dep 17), (sig 17).keep, (sig 17).ord⟩
noncomputable def c17 : Code := Try.f17.body.getD .skip
def T17o0 : TSt := ⟨[.nils, .own 192, .d (.i .i64), .any], [(192, .row 28 5)]⟩
def X17o0e1 : TSt := ⟨[.nils, .own 192, .d (.i .i64), .d (.b)], [(192, .row 28 5)]⟩
def L17o0 (m : Nat) (vs : List Vr) (K : Cont (List DV × List (List D))) : Rs := la17o0 tu12 (fun n9 b10 l11 => K (.exit 0) (fillS X17o0e1 [.i (n9), .b (b10), .l (l11)])) m (vI vs 0) (vV vs 1) (vL vs 2)
def ST17 : List (Nat × (St → Cont (List DV × List (List D)) → Rs)) := [(0, sumT T17o0 (L17o0 KK))]
noncomputable def b17o0 : Code := match nodeAt c17 0 with | some (.loop a) => a | _ => .skip
theorem q17o0 : ∀ m vs K, L17o0 (m + 1) vs K = denK C17 (lkS ST17) b17o0 1 (fillS T17o0 vs) (loopK T17o0 (L17o0 m) K) := fun m vs K => by kernel_rfl
theorem o17o0 : SumOk C17 KK (sumT T17o0 (L17o0 KK)) (.loop b17o0) := loop_ok T17o0 L17o0 (sums_of (t := ST17) ⟨fun _ _ h => absurd h (by decide), trivial⟩) (fun _ _ => rfl) q17o0
theorem r17 : ∀ vs, tw17 vs = bodyK C17 (lkS ST17) Try.f17 (sig 17) c17 (fillAs A17 0 vs) := fun vs => by kernel_rfl
theorem ok17 : ∀ xs q, opt (th17 xs) = some q → evalBody Try.prog sig (Gd G dep (dep 17)) KK 17 xs = some q := fun xs q h => body_ok Try.func17 (c := c17) rfl A17 tw17 (sums_of (C := C17) (t := ST17) ⟨sum_in (c' := .loop b17o0) (by kernel_rfl) (o17o0), trivial⟩) r17 (by rw [← tpw17]; exact opt_gOf h)
noncomputable def C41 : Ctx := ⟨Try.prog, sig, Gd G dep (dep 41), (sig 41).keep, (sig 41).ord⟩
noncomputable def c41 : Code := Try.f41.body.getD .skip
def ST41 : List (Nat × (St → Cont (List DV × List (List D)) → Rs)) := []
theorem r41 : ∀ vs, tw41 vs = bodyK C41 (lkS ST41) Try.f41 (sig 41) c41 (fillAs A41 0 vs) := fun vs => by kernel_rfl
theorem ok41 : ∀ xs q, opt (th41 xs) = some q → evalBody Try.prog sig (Gd G dep (dep 41)) KK 41 xs = some q := fun xs q h => body_ok Try.func41 (c := c41) rfl A41 tw41 (sums_of (C := C41) (t := ST41) trivial) r41 (by rw [← tpw41]; exact opt_gOf h)
noncomputable def C13 : Ctx := ⟨Try.prog, sig, Gd G dep (dep 13), (sig 13).keep, (sig 13).ord⟩
noncomputable def c13 : Code := Try.f13.body.getD .skip
def ST13 : List (Nat × (St → Cont (List DV × List (List D)) → Rs)) := []
theorem r13 : ∀ vs, tw13 vs = bodyK C13 (lkS ST13) Try.f13 (sig 13) c13 (fillAs A13 0 vs) := fun vs => by kernel_rfl
theorem ok13 : ∀ xs q, opt (th13 xs) = some q → evalBody Try.prog sig (Gd G dep (dep 13)) KK 13 xs = some q := fun xs q h => body_ok Try.func13 (c := c13) rfl A13 tw13 (sums_of (C := C13) (t := ST13) trivial) r13 (by rw [← tpw13]; exact opt_gOf h)
noncomputable def C18 : Ctx := ⟨Try.prog, sig, Gd G dep (dep 18), (sig 18).keep, (sig 18).ord⟩
noncomputable def c18 : Code := Try.f18.body.getD .skip
def T18o0 : TSt := ⟨[.nils, .own 128, .d (.i .i64), .any], [(128, .row 28 5)]⟩
def X18o0e1 : TSt := ⟨[.nils, .own 128, .d (.i .i64), .d (.b)], [(128, .row 28 5)]⟩
def L18o0 (m : Nat) (vs : List Vr) (K : Cont (List DV × List (List D))) : Rs := la18o0 tu13 (fun n9 b10 l11 => K (.exit 0) (fillS X18o0e1 [.i (n9), .b (b10), .l (l11)])) m (vI vs 0) (vV vs 1) (vL vs 2)
def ST18 : List (Nat × (St → Cont (List DV × List (List D)) → Rs)) := [(0, sumT T18o0 (L18o0 KK))]
noncomputable def b18o0 : Code := match nodeAt c18 0 with | some (.loop a) => a | _ => .skip
theorem q18o0 : ∀ m vs K, L18o0 (m + 1) vs K = denK C18 (lkS ST18) b18o0 1 (fillS T18o0 vs) (loopK T18o0 (L18o0 m) K) := fun m vs K => by kernel_rfl
theorem o18o0 : SumOk C18 KK (sumT T18o0 (L18o0 KK)) (.loop b18o0) := loop_ok T18o0 L18o0 (sums_of (t := ST18) ⟨fun _ _ h => absurd h (by decide), trivial⟩) (fun _ _ => rfl) q18o0
theorem r18 : ∀ vs, tw18 vs = bodyK C18 (lkS ST18) Try.f18 (sig 18) c18 (fillAs A18 0 vs) := fun vs => by kernel_rfl
theorem ok18 : ∀ xs q, opt (th18 xs) = some q → evalBody Try.prog sig (Gd G dep (dep 18)) KK 18 xs = some q := fun xs q h => body_ok Try.func18 (c := c18) rfl A18 tw18 (sums_of (C := C18) (t := ST18) ⟨sum_in (c' := .loop b18o0) (by kernel_rfl) (o18o0), trivial⟩) r18 (by rw [← tpw18]; exact opt_gOf h)
noncomputable def C143 : Ctx := ⟨Try.prog, sig, Gd G dep (dep 143), (sig 143).keep, (sig 143).ord⟩
noncomputable def c143 : Code := Try.f143.body.getD .skip
def ST143 : List (Nat × (St → Cont (List DV × List (List D)) → Rs)) := []
theorem r143 : ∀ vs, tw143 vs = bodyK C143 (lkS ST143) Try.f143 (sig 143) c143 (fillAs A143 0 vs) := fun vs => by kernel_rfl
theorem ok143 : ∀ xs q, opt (th143 xs) = some q → evalBody Try.prog sig (Gd G dep (dep 143)) KK 143 xs = some q := fun xs q h => body_ok Try.func143 (c := c143) rfl A143 tw143 (sums_of (C := C143) (t := ST143) trivial) r143 (by rw [← tpw143]; exact opt_gOf h)
noncomputable def C137 : Ctx := ⟨Try.prog, sig, Gd G dep (dep 137), (sig 137).keep, (sig 137).ord⟩
noncomputable def c137 : Code := Try.f137.body.getD .skip
def T137o1 : TSt := ⟨[.d (.l), .d (.l), .d (.b), .d (.i .i64), .d (.b), .any, .any], []⟩
def X137o1e1 : TSt := ⟨[.d (.l), .d (.l), .d (.b), .d (.i .i64), .d (.b), .d (.b), .d (.b)], []⟩
def X137o1e2 : TSt := ⟨[.d (.l), .d (.l), .d (.b), .d (.i .i64), .d (.b), .d (.b), .any], []⟩
def L137o1 (m : Nat) (vs : List Vr) (K : Cont (List DV × List (List D))) : Rs := la137o1 tu143 (vL vs 0) (vL vs 1) (vB vs 2) (vB vs 4) (fun n22 b23 b24 => K .ret (fillS X137o1e1 [.l (vL vs 0), .l (vL vs 1), .b (false), .i (n22), .b (vB vs 4), .b (b23), .b (b24)])) (fun n25 b26 v27 => K (.exit 0) (fillS X137o1e2 [.l (vL vs 0), .l (vL vs 1), .b (vB vs 2), .i (n25), .b (vB vs 4), .b (b26), .v (v27)])) m (vI vs 3) (vV vs 5) (vV vs 6)
def ST137 : List (Nat × (St → Cont (List DV × List (List D)) → Rs)) := [(1, sumT T137o1 (L137o1 KK))]
noncomputable def b137o1 : Code := match nodeAt c137 1 with | some (.loop a) => a | _ => .skip
theorem q137o1 : ∀ m vs K, L137o1 (m + 1) vs K = denK C137 (lkS ST137) b137o1 2 (fillS T137o1 vs) (loopK T137o1 (L137o1 m) K) := fun m vs K => by kernel_rfl
theorem o137o1 : SumOk C137 KK (sumT T137o1 (L137o1 KK)) (.loop b137o1) := loop_ok T137o1 L137o1 (sums_of (t := ST137) ⟨fun _ _ h => absurd h (by decide), trivial⟩) (fun _ _ => rfl) q137o1
theorem r137 : ∀ vs, tw137 vs = bodyK C137 (lkS ST137) Try.f137 (sig 137) c137 (fillAs A137 0 vs) := fun vs => by kernel_rfl
theorem ok137 : ∀ xs q, opt (th137 xs) = some q → evalBody Try.prog sig (Gd G dep (dep 137)) KK 137 xs = some q := fun xs q h => body_ok Try.func137 (c := c137) rfl A137 tw137 (sums_of (C := C137) (t := ST137) ⟨sum_in (c' := .loop b137o1) (by kernel_rfl) (o137o1), trivial⟩) r137 (by rw [← tpw137]; exact opt_gOf h)
noncomputable def C120 : Ctx := ⟨Try.prog, sig, Gd G dep (dep 120), (sig 120).keep, (sig 120).ord⟩
noncomputable def c120 : Code := Try.f120.body.getD .skip
def ST120 : List (Nat × (St → Cont (List DV × List (List D)) → Rs)) := []
theorem r120 : ∀ vs, tw120 vs = bodyK C120 (lkS ST120) Try.f120 (sig 120) c120 (fillAs A120 0 vs) := fun vs => by kernel_rfl
theorem ok120 : ∀ xs q, opt (th120 xs) = some q → evalBody Try.prog sig (Gd G dep (dep 120)) KK 120 xs = some q := fun xs q h => body_ok Try.func120 (c := c120) rfl A120 tw120 (sums_of (C := C120) (t := ST120) trivial) r120 (by rw [← tpw120]; exact opt_gOf h)
noncomputable def C83 : Ctx := ⟨Try.prog, sig, Gd G dep (dep 83), (sig 83).keep, (sig 83).ord⟩
noncomputable def c83 : Code := Try.f83.body.getD .skip
def T83o1 : TSt := ⟨[.d (.l), .d (.l), .d (.b), .d (.i .i64), .d (.b), .any, .any], []⟩
def X83o1e1 : TSt := ⟨[.d (.l), .d (.l), .d (.b), .d (.i .i64), .d (.b), .d (.b), .d (.b)], []⟩
def X83o1e2 : TSt := ⟨[.d (.l), .d (.l), .d (.b), .d (.i .i64), .d (.b), .d (.b), .any], []⟩
def L83o1 (m : Nat) (vs : List Vr) (K : Cont (List DV × List (List D))) : Rs := la83o1 tu120 (vL vs 0) (vL vs 1) (vB vs 2) (vB vs 4) (fun n22 b23 b24 => K .ret (fillS X83o1e1 [.l (vL vs 0), .l (vL vs 1), .b (false), .i (n22), .b (vB vs 4), .b (b23), .b (b24)])) (fun n25 b26 v27 => K (.exit 0) (fillS X83o1e2 [.l (vL vs 0), .l (vL vs 1), .b (vB vs 2), .i (n25), .b (vB vs 4), .b (b26), .v (v27)])) m (vI vs 3) (vV vs 5) (vV vs 6)
def ST83 : List (Nat × (St → Cont (List DV × List (List D)) → Rs)) := [(1, sumT T83o1 (L83o1 KK))]
noncomputable def b83o1 : Code := match nodeAt c83 1 with | some (.loop a) => a | _ => .skip
theorem q83o1 : ∀ m vs K, L83o1 (m + 1) vs K = denK C83 (lkS ST83) b83o1 2 (fillS T83o1 vs) (loopK T83o1 (L83o1 m) K) := fun m vs K => by kernel_rfl
theorem o83o1 : SumOk C83 KK (sumT T83o1 (L83o1 KK)) (.loop b83o1) := loop_ok T83o1 L83o1 (sums_of (t := ST83) ⟨fun _ _ h => absurd h (by decide), trivial⟩) (fun _ _ => rfl) q83o1
theorem r83 : ∀ vs, tw83 vs = bodyK C83 (lkS ST83) Try.f83 (sig 83) c83 (fillAs A83 0 vs) := fun vs => by kernel_rfl
theorem ok83 : ∀ xs q, opt (th83 xs) = some q → evalBody Try.prog sig (Gd G dep (dep 83)) KK 83 xs = some q := fun xs q h => body_ok Try.func83 (c := c83) rfl A83 tw83 (sums_of (C := C83) (t := ST83) ⟨sum_in (c' := .loop b83o1) (by kernel_rfl) (o83o1), trivial⟩) r83 (by rw [← tpw83]; exact opt_gOf h)
noncomputable def C42 : Ctx := ⟨Try.prog, sig, Gd G dep (dep 42), (sig 42).keep, (sig 42).ord⟩
noncomputable def c42 : Code := Try.f42.body.getD .skip
def ST42 : List (Nat × (St → Cont (List DV × List (List D)) → Rs)) := []
theorem r42 : ∀ vs, tw42 vs = bodyK C42 (lkS ST42) Try.f42 (sig 42) c42 (fillAs A42 0 vs) := fun vs => by kernel_rfl
theorem ok42 : ∀ xs q, opt (th42 xs) = some q → evalBody Try.prog sig (Gd G dep (dep 42)) KK 42 xs = some q := fun xs q h => body_ok Try.func42 (c := c42) rfl A42 tw42 (sums_of (C := C42) (t := ST42) trivial) r42 (by rw [← tpw42]; exact opt_gOf h)
noncomputable def C84 : Ctx := ⟨Try.prog, sig, Gd G dep (dep 84), (sig 84).keep, (sig 84).ord⟩
noncomputable def c84 : Code := Try.f84.body.getD .skip
def ST84 : List (Nat × (St → Cont (List DV × List (List D)) → Rs)) := []
theorem r84 : ∀ vs, tw84 vs = bodyK C84 (lkS ST84) Try.f84 (sig 84) c84 (fillAs A84 0 vs) := fun vs => by kernel_rfl
theorem ok84 : ∀ xs q, opt (th84 xs) = some q → evalBody Try.prog sig (Gd G dep (dep 84)) KK 84 xs = some q := fun xs q h => body_ok Try.func84 (c := c84) rfl A84 tw84 (sums_of (C := C84) (t := ST84) trivial) r84 (by rw [← tpw84]; exact opt_gOf h)
noncomputable def C43 : Ctx := ⟨Try.prog, sig, Gd G dep (dep 43), (sig 43).keep, (sig 43).ord⟩
noncomputable def c43 : Code := Try.f43.body.getD .skip
def T43o1 : TSt := ⟨[.d (.l), .d (.l), .d (.b), .d (.i .i64), .d (.b), .any, .any], []⟩
def X43o1e1 : TSt := ⟨[.d (.l), .d (.l), .d (.b), .d (.i .i64), .d (.b), .d (.b), .d (.b)], []⟩
def X43o1e2 : TSt := ⟨[.d (.l), .d (.l), .d (.b), .d (.i .i64), .d (.b), .d (.b), .any], []⟩
def L43o1 (m : Nat) (vs : List Vr) (K : Cont (List DV × List (List D))) : Rs := la43o1 tu84 (vL vs 0) (vL vs 1) (vB vs 2) (vB vs 4) (fun n22 b23 b24 => K .ret (fillS X43o1e1 [.l (vL vs 0), .l (vL vs 1), .b (false), .i (n22), .b (vB vs 4), .b (b23), .b (b24)])) (fun n25 b26 v27 => K (.exit 0) (fillS X43o1e2 [.l (vL vs 0), .l (vL vs 1), .b (vB vs 2), .i (n25), .b (vB vs 4), .b (b26), .v (v27)])) m (vI vs 3) (vV vs 5) (vV vs 6)
def ST43 : List (Nat × (St → Cont (List DV × List (List D)) → Rs)) := [(1, sumT T43o1 (L43o1 KK))]
noncomputable def b43o1 : Code := match nodeAt c43 1 with | some (.loop a) => a | _ => .skip
theorem q43o1 : ∀ m vs K, L43o1 (m + 1) vs K = denK C43 (lkS ST43) b43o1 2 (fillS T43o1 vs) (loopK T43o1 (L43o1 m) K) := fun m vs K => by kernel_rfl
theorem o43o1 : SumOk C43 KK (sumT T43o1 (L43o1 KK)) (.loop b43o1) := loop_ok T43o1 L43o1 (sums_of (t := ST43) ⟨fun _ _ h => absurd h (by decide), trivial⟩) (fun _ _ => rfl) q43o1
theorem r43 : ∀ vs, tw43 vs = bodyK C43 (lkS ST43) Try.f43 (sig 43) c43 (fillAs A43 0 vs) := fun vs => by kernel_rfl
theorem ok43 : ∀ xs q, opt (th43 xs) = some q → evalBody Try.prog sig (Gd G dep (dep 43)) KK 43 xs = some q := fun xs q h => body_ok Try.func43 (c := c43) rfl A43 tw43 (sums_of (C := C43) (t := ST43) ⟨sum_in (c' := .loop b43o1) (by kernel_rfl) (o43o1), trivial⟩) r43 (by rw [← tpw43]; exact opt_gOf h)
noncomputable def C121 : Ctx := ⟨Try.prog, sig, Gd G dep (dep 121), (sig 121).keep, (sig 121).ord⟩
noncomputable def c121 : Code := Try.f121.body.getD .skip
def ST121 : List (Nat × (St → Cont (List DV × List (List D)) → Rs)) := []
theorem r121 : ∀ vs, tw121 vs = bodyK C121 (lkS ST121) Try.f121 (sig 121) c121 (fillAs A121 0 vs) := fun vs => by kernel_rfl
theorem ok121 : ∀ xs q, opt (th121 xs) = some q → evalBody Try.prog sig (Gd G dep (dep 121)) KK 121 xs = some q := fun xs q h => body_ok Try.func121 (c := c121) rfl A121 tw121 (sums_of (C := C121) (t := ST121) trivial) r121 (by rw [← tpw121]; exact opt_gOf h)
noncomputable def C85 : Ctx := ⟨Try.prog, sig, Gd G dep (dep 85), (sig 85).keep, (sig 85).ord⟩
noncomputable def c85 : Code := Try.f85.body.getD .skip
def ST85 : List (Nat × (St → Cont (List DV × List (List D)) → Rs)) := []
theorem r85 : ∀ vs, tw85 vs = bodyK C85 (lkS ST85) Try.f85 (sig 85) c85 (fillAs A85 0 vs) := fun vs => by kernel_rfl
theorem ok85 : ∀ xs q, opt (th85 xs) = some q → evalBody Try.prog sig (Gd G dep (dep 85)) KK 85 xs = some q := fun xs q h => body_ok Try.func85 (c := c85) rfl A85 tw85 (sums_of (C := C85) (t := ST85) trivial) r85 (by rw [← tpw85]; exact opt_gOf h)
noncomputable def C44 : Ctx := ⟨Try.prog, sig, Gd G dep (dep 44), (sig 44).keep, (sig 44).ord⟩
noncomputable def c44 : Code := Try.f44.body.getD .skip
def T44o1 : TSt := ⟨[.d (.l), .d (.l), .d (.b), .d (.i .i64), .d (.b), .any, .any], []⟩
def X44o1e1 : TSt := ⟨[.d (.l), .d (.l), .d (.b), .d (.i .i64), .d (.b), .d (.b), .d (.b)], []⟩
def X44o1e2 : TSt := ⟨[.d (.l), .d (.l), .d (.b), .d (.i .i64), .d (.b), .d (.b), .any], []⟩
def L44o1 (m : Nat) (vs : List Vr) (K : Cont (List DV × List (List D))) : Rs := la44o1 tu85 (vL vs 0) (vL vs 1) (vB vs 2) (vB vs 4) (fun n22 b23 b24 => K .ret (fillS X44o1e1 [.l (vL vs 0), .l (vL vs 1), .b (false), .i (n22), .b (vB vs 4), .b (b23), .b (b24)])) (fun n25 b26 v27 => K (.exit 0) (fillS X44o1e2 [.l (vL vs 0), .l (vL vs 1), .b (vB vs 2), .i (n25), .b (vB vs 4), .b (b26), .v (v27)])) m (vI vs 3) (vV vs 5) (vV vs 6)
def ST44 : List (Nat × (St → Cont (List DV × List (List D)) → Rs)) := [(1, sumT T44o1 (L44o1 KK))]
noncomputable def b44o1 : Code := match nodeAt c44 1 with | some (.loop a) => a | _ => .skip
theorem q44o1 : ∀ m vs K, L44o1 (m + 1) vs K = denK C44 (lkS ST44) b44o1 2 (fillS T44o1 vs) (loopK T44o1 (L44o1 m) K) := fun m vs K => by kernel_rfl
theorem o44o1 : SumOk C44 KK (sumT T44o1 (L44o1 KK)) (.loop b44o1) := loop_ok T44o1 L44o1 (sums_of (t := ST44) ⟨fun _ _ h => absurd h (by decide), trivial⟩) (fun _ _ => rfl) q44o1
theorem r44 : ∀ vs, tw44 vs = bodyK C44 (lkS ST44) Try.f44 (sig 44) c44 (fillAs A44 0 vs) := fun vs => by kernel_rfl
theorem ok44 : ∀ xs q, opt (th44 xs) = some q → evalBody Try.prog sig (Gd G dep (dep 44)) KK 44 xs = some q := fun xs q h => body_ok Try.func44 (c := c44) rfl A44 tw44 (sums_of (C := C44) (t := ST44) ⟨sum_in (c' := .loop b44o1) (by kernel_rfl) (o44o1), trivial⟩) r44 (by rw [← tpw44]; exact opt_gOf h)
noncomputable def C14 : Ctx := ⟨Try.prog, sig, Gd G dep (dep 14), (sig 14).keep, (sig 14).ord⟩
noncomputable def c14 : Code := Try.f14.body.getD .skip
def ST14 : List (Nat × (St → Cont (List DV × List (List D)) → Rs)) := []
theorem r14 : ∀ vs, tw14 vs = bodyK C14 (lkS ST14) Try.f14 (sig 14) c14 (fillAs A14 0 vs) := fun vs => by kernel_rfl
theorem ok14 : ∀ xs q, opt (th14 xs) = some q → evalBody Try.prog sig (Gd G dep (dep 14)) KK 14 xs = some q := fun xs q h => body_ok Try.func14 (c := c14) rfl A14 tw14 (sums_of (C := C14) (t := ST14) trivial) r14 (by rw [← tpw14]; exact opt_gOf h)
noncomputable def C19 : Ctx := ⟨Try.prog, sig, Gd G dep (dep 19), (sig 19).keep, (sig 19).ord⟩
noncomputable def c19 : Code := Try.f19.body.getD .skip
def T19o1 : TSt := ⟨[.d (.l), .d (.l), .d (.b), .d (.i .i64), .d (.b), .any, .any], []⟩
def X19o1e1 : TSt := ⟨[.d (.l), .d (.l), .d (.b), .d (.i .i64), .d (.b), .d (.b), .d (.b)], []⟩
def X19o1e2 : TSt := ⟨[.d (.l), .d (.l), .d (.b), .d (.i .i64), .d (.b), .d (.b), .any], []⟩
def L19o1 (m : Nat) (vs : List Vr) (K : Cont (List DV × List (List D))) : Rs := la19o1 tu14 (vL vs 0) (vL vs 1) (vB vs 2) (vB vs 4) (fun n22 b23 b24 => K .ret (fillS X19o1e1 [.l (vL vs 0), .l (vL vs 1), .b (false), .i (n22), .b (vB vs 4), .b (b23), .b (b24)])) (fun n25 b26 v27 => K (.exit 0) (fillS X19o1e2 [.l (vL vs 0), .l (vL vs 1), .b (vB vs 2), .i (n25), .b (vB vs 4), .b (b26), .v (v27)])) m (vI vs 3) (vV vs 5) (vV vs 6)
def ST19 : List (Nat × (St → Cont (List DV × List (List D)) → Rs)) := [(1, sumT T19o1 (L19o1 KK))]
noncomputable def b19o1 : Code := match nodeAt c19 1 with | some (.loop a) => a | _ => .skip
theorem q19o1 : ∀ m vs K, L19o1 (m + 1) vs K = denK C19 (lkS ST19) b19o1 2 (fillS T19o1 vs) (loopK T19o1 (L19o1 m) K) := fun m vs K => by kernel_rfl
theorem o19o1 : SumOk C19 KK (sumT T19o1 (L19o1 KK)) (.loop b19o1) := loop_ok T19o1 L19o1 (sums_of (t := ST19) ⟨fun _ _ h => absurd h (by decide), trivial⟩) (fun _ _ => rfl) q19o1
theorem r19 : ∀ vs, tw19 vs = bodyK C19 (lkS ST19) Try.f19 (sig 19) c19 (fillAs A19 0 vs) := fun vs => by kernel_rfl
theorem ok19 : ∀ xs q, opt (th19 xs) = some q → evalBody Try.prog sig (Gd G dep (dep 19)) KK 19 xs = some q := fun xs q h => body_ok Try.func19 (c := c19) rfl A19 tw19 (sums_of (C := C19) (t := ST19) ⟨sum_in (c' := .loop b19o1) (by kernel_rfl) (o19o1), trivial⟩) r19 (by rw [← tpw19]; exact opt_gOf h)
noncomputable def C86 : Ctx := ⟨Try.prog, sig, Gd G dep (dep 86), (sig 86).keep, (sig 86).ord⟩
noncomputable def c86 : Code := Try.f86.body.getD .skip
def T86o1 : TSt := ⟨[.d (.i .i64), .d (.s), .d (.s), .d (.b), .any], []⟩
def X86o1e1 : TSt := ⟨[.d (.i .i64), .d (.s), .d (.s), .d (.b), .d (.b)], []⟩
def L86o1 (m : Nat) (vs : List Vr) (K : Cont (List DV × List (List D))) : Rs := l86o1 (vS vs 1) (vB vs 3) (fun n16 s17 b18 => K (.exit 0) (fillS X86o1e1 [.i (n16), .s (vS vs 1), .s (s17), .b (vB vs 3), .b (b18)])) m (vI vs 0) (vS vs 2) (vV vs 4)
def ST86 : List (Nat × (St → Cont (List DV × List (List D)) → Rs)) := [(1, sumT T86o1 (L86o1 KK))]
noncomputable def b86o1 : Code := match nodeAt c86 1 with | some (.loop a) => a | _ => .skip
theorem q86o1 : ∀ m vs K, L86o1 (m + 1) vs K = denK C86 (lkS ST86) b86o1 2 (fillS T86o1 vs) (loopK T86o1 (L86o1 m) K) := fun m vs K => by kernel_rfl
theorem o86o1 : SumOk C86 KK (sumT T86o1 (L86o1 KK)) (.loop b86o1) := loop_ok T86o1 L86o1 (sums_of (t := ST86) ⟨fun _ _ h => absurd h (by decide), trivial⟩) (fun _ _ => rfl) q86o1
theorem r86 : ∀ vs, tw86 vs = bodyK C86 (lkS ST86) Try.f86 (sig 86) c86 (fillAs A86 0 vs) := fun vs => by kernel_rfl
theorem ok86 : ∀ xs q, opt (th86 xs) = some q → evalBody Try.prog sig (Gd G dep (dep 86)) KK 86 xs = some q := fun xs q h => body_ok Try.func86 (c := c86) rfl A86 tw86 (sums_of (C := C86) (t := ST86) ⟨sum_in (c' := .loop b86o1) (by kernel_rfl) (o86o1), trivial⟩) r86 (by rw [← tpw86]; exact opt_gOf h)
noncomputable def C87 : Ctx := ⟨Try.prog, sig, Gd G dep (dep 87), (sig 87).keep, (sig 87).ord⟩
noncomputable def c87 : Code := Try.f87.body.getD .skip
def T87o0 : TSt := ⟨[.own 1, .d (.i .i64), .d (.i .i64), .d (.i .i64), .any], [(1, .row 999999999 2)]⟩
def X87o0e1 : TSt := ⟨[.own 1, .d (.i .i64), .d (.i .i64), .d (.i .i64), .d (.b)], [(1, .row 999999999 2)]⟩
def L87o0 (m : Nat) (vs : List Vr) (K : Cont (List DV × List (List D))) : Rs := la87o0 tu86 (vI vs 1) (fun n17 n18 b19 l20 => K (.exit 0) (fillS X87o0e1 [.i (n17), .i (vI vs 1), .i (n18), .b (b19), .l (l20)])) m (vI vs 0) (vI vs 2) (vV vs 3) (vL vs 4)
def ST87 : List (Nat × (St → Cont (List DV × List (List D)) → Rs)) := [(0, sumT T87o0 (L87o0 KK))]
noncomputable def b87o0 : Code := match nodeAt c87 0 with | some (.loop a) => a | _ => .skip
theorem q87o0 : ∀ m vs K, L87o0 (m + 1) vs K = denK C87 (lkS ST87) b87o0 1 (fillS T87o0 vs) (loopK T87o0 (L87o0 m) K) := fun m vs K => by kernel_rfl
theorem o87o0 : SumOk C87 KK (sumT T87o0 (L87o0 KK)) (.loop b87o0) := loop_ok T87o0 L87o0 (sums_of (t := ST87) ⟨fun _ _ h => absurd h (by decide), trivial⟩) (fun _ _ => rfl) q87o0
theorem r87 : ∀ vs, tw87 vs = bodyK C87 (lkS ST87) Try.f87 (sig 87) c87 (fillAs A87 0 vs) := fun vs => by kernel_rfl
theorem ok87 : ∀ xs q, opt (th87 xs) = some q → evalBody Try.prog sig (Gd G dep (dep 87)) KK 87 xs = some q := fun xs q h => body_ok Try.func87 (c := c87) rfl A87 tw87 (sums_of (C := C87) (t := ST87) ⟨sum_in (c' := .loop b87o0) (by kernel_rfl) (o87o0), trivial⟩) r87 (by rw [← tpw87]; exact opt_gOf h)
noncomputable def C51 : Ctx := ⟨Try.prog, sig, Gd G dep (dep 51), (sig 51).keep, (sig 51).ord⟩
noncomputable def c51 : Code := Try.f51.body.getD .skip
def T51o0 : TSt := ⟨[.own 1, .d (.i .i64), .d (.i .i64), .d (.i .i64), .any], [(1, .row 999999999 9)]⟩
def X51o0e1 : TSt := ⟨[.own 1, .d (.i .i64), .d (.i .i64), .d (.i .i64), .d (.b)], [(1, .row 999999999 9)]⟩
def L51o0 (m : Nat) (vs : List Vr) (K : Cont (List DV × List (List D))) : Rs := la51o0 tu86 tu87 (vI vs 1) (fun n17 n18 b19 l20 => K (.exit 0) (fillS X51o0e1 [.i (n17), .i (vI vs 1), .i (n18), .b (b19), .l (l20)])) m (vI vs 0) (vI vs 2) (vV vs 3) (vL vs 4)
def ST51 : List (Nat × (St → Cont (List DV × List (List D)) → Rs)) := [(0, sumT T51o0 (L51o0 KK))]
noncomputable def b51o0 : Code := match nodeAt c51 0 with | some (.loop a) => a | _ => .skip
theorem q51o0 : ∀ m vs K, L51o0 (m + 1) vs K = denK C51 (lkS ST51) b51o0 1 (fillS T51o0 vs) (loopK T51o0 (L51o0 m) K) := fun m vs K => by kernel_rfl
theorem o51o0 : SumOk C51 KK (sumT T51o0 (L51o0 KK)) (.loop b51o0) := loop_ok T51o0 L51o0 (sums_of (t := ST51) ⟨fun _ _ h => absurd h (by decide), trivial⟩) (fun _ _ => rfl) q51o0
theorem r51 : ∀ vs, tw51 vs = bodyK C51 (lkS ST51) Try.f51 (sig 51) c51 (fillAs A51 0 vs) := fun vs => by kernel_rfl
theorem ok51 : ∀ xs q, opt (th51 xs) = some q → evalBody Try.prog sig (Gd G dep (dep 51)) KK 51 xs = some q := fun xs q h => body_ok Try.func51 (c := c51) rfl A51 tw51 (sums_of (C := C51) (t := ST51) ⟨sum_in (c' := .loop b51o0) (by kernel_rfl) (o51o0), trivial⟩) r51 (by rw [← tpw51]; exact opt_gOf h)
noncomputable def C46 : Ctx := ⟨Try.prog, sig, Gd G dep (dep 46), (sig 46).keep, (sig 46).ord⟩
noncomputable def c46 : Code := Try.f46.body.getD .skip
def T46o0 : TSt := ⟨[.own 1, .d (.i .i64), .d (.i .i64), .d (.i .i64), .any], [(1, .row 999999999 5)]⟩
def X46o0e1 : TSt := ⟨[.own 1, .d (.i .i64), .d (.i .i64), .d (.i .i64), .d (.b)], [(1, .row 999999999 5)]⟩
def L46o0 (m : Nat) (vs : List Vr) (K : Cont (List DV × List (List D))) : Rs := l46o0 (vI vs 1) (fun n17 n18 b19 l20 => K (.exit 0) (fillS X46o0e1 [.i (n17), .i (vI vs 1), .i (n18), .b (b19), .l (l20)])) m (vI vs 0) (vI vs 2) (vV vs 3) (vL vs 4)
def ST46 : List (Nat × (St → Cont (List DV × List (List D)) → Rs)) := [(0, sumT T46o0 (L46o0 KK))]
noncomputable def b46o0 : Code := match nodeAt c46 0 with | some (.loop a) => a | _ => .skip
theorem q46o0 : ∀ m vs K, L46o0 (m + 1) vs K = denK C46 (lkS ST46) b46o0 1 (fillS T46o0 vs) (loopK T46o0 (L46o0 m) K) := fun m vs K => by kernel_rfl
theorem o46o0 : SumOk C46 KK (sumT T46o0 (L46o0 KK)) (.loop b46o0) := loop_ok T46o0 L46o0 (sums_of (t := ST46) ⟨fun _ _ h => absurd h (by decide), trivial⟩) (fun _ _ => rfl) q46o0
theorem r46 : ∀ vs, tw46 vs = bodyK C46 (lkS ST46) Try.f46 (sig 46) c46 (fillAs A46 0 vs) := fun vs => by kernel_rfl
theorem ok46 : ∀ xs q, opt (th46 xs) = some q → evalBody Try.prog sig (Gd G dep (dep 46)) KK 46 xs = some q := fun xs q h => body_ok Try.func46 (c := c46) rfl A46 tw46 (sums_of (C := C46) (t := ST46) ⟨sum_in (c' := .loop b46o0) (by kernel_rfl) (o46o0), trivial⟩) r46 (by rw [← tpw46]; exact opt_gOf h)
noncomputable def C47 : Ctx := ⟨Try.prog, sig, Gd G dep (dep 47), (sig 47).keep, (sig 47).ord⟩
noncomputable def c47 : Code := Try.f47.body.getD .skip
def T47o0 : TSt := ⟨[.own 1, .d (.i .i64), .d (.i .i64), .d (.i .i64), .any], [(1, .row 999999999 5)]⟩
def X47o0e1 : TSt := ⟨[.own 1, .d (.i .i64), .d (.i .i64), .d (.i .i64), .d (.b)], [(1, .row 999999999 5)]⟩
def L47o0 (m : Nat) (vs : List Vr) (K : Cont (List DV × List (List D))) : Rs := la47o0 tu86 (vI vs 1) (fun n17 n18 b19 l20 => K (.exit 0) (fillS X47o0e1 [.i (n17), .i (vI vs 1), .i (n18), .b (b19), .l (l20)])) m (vI vs 0) (vI vs 2) (vV vs 3) (vL vs 4)
def ST47 : List (Nat × (St → Cont (List DV × List (List D)) → Rs)) := [(0, sumT T47o0 (L47o0 KK))]
noncomputable def b47o0 : Code := match nodeAt c47 0 with | some (.loop a) => a | _ => .skip
theorem q47o0 : ∀ m vs K, L47o0 (m + 1) vs K = denK C47 (lkS ST47) b47o0 1 (fillS T47o0 vs) (loopK T47o0 (L47o0 m) K) := fun m vs K => by kernel_rfl
theorem o47o0 : SumOk C47 KK (sumT T47o0 (L47o0 KK)) (.loop b47o0) := loop_ok T47o0 L47o0 (sums_of (t := ST47) ⟨fun _ _ h => absurd h (by decide), trivial⟩) (fun _ _ => rfl) q47o0
theorem r47 : ∀ vs, tw47 vs = bodyK C47 (lkS ST47) Try.f47 (sig 47) c47 (fillAs A47 0 vs) := fun vs => by kernel_rfl
theorem ok47 : ∀ xs q, opt (th47 xs) = some q → evalBody Try.prog sig (Gd G dep (dep 47)) KK 47 xs = some q := fun xs q h => body_ok Try.func47 (c := c47) rfl A47 tw47 (sums_of (C := C47) (t := ST47) ⟨sum_in (c' := .loop b47o0) (by kernel_rfl) (o47o0), trivial⟩) r47 (by rw [← tpw47]; exact opt_gOf h)
noncomputable def C20 : Ctx := ⟨Try.prog, sig, Gd G dep (dep 20), (sig 20).keep, (sig 20).ord⟩
noncomputable def c20 : Code := Try.f20.body.getD .skip
def T20o0 : TSt := ⟨[.own 1, .d (.i .i64), .d (.i .i64), .d (.i .i64), .any], [(1, .row 999999999 5)]⟩
def X20o0e1 : TSt := ⟨[.own 1, .d (.i .i64), .d (.i .i64), .d (.i .i64), .d (.b)], [(1, .row 999999999 5)]⟩
def L20o0 (m : Nat) (vs : List Vr) (K : Cont (List DV × List (List D))) : Rs := la20o0 tu46 tu47 tu51 (vI vs 1) (fun n17 n18 b19 l20 => K (.exit 0) (fillS X20o0e1 [.i (n17), .i (vI vs 1), .i (n18), .b (b19), .l (l20)])) m (vI vs 0) (vI vs 2) (vV vs 3) (vL vs 4)
def ST20 : List (Nat × (St → Cont (List DV × List (List D)) → Rs)) := [(0, sumT T20o0 (L20o0 KK))]
noncomputable def b20o0 : Code := match nodeAt c20 0 with | some (.loop a) => a | _ => .skip
theorem q20o0 : ∀ m vs K, L20o0 (m + 1) vs K = denK C20 (lkS ST20) b20o0 1 (fillS T20o0 vs) (loopK T20o0 (L20o0 m) K) := fun m vs K => by kernel_rfl
theorem o20o0 : SumOk C20 KK (sumT T20o0 (L20o0 KK)) (.loop b20o0) := loop_ok T20o0 L20o0 (sums_of (t := ST20) ⟨fun _ _ h => absurd h (by decide), trivial⟩) (fun _ _ => rfl) q20o0
theorem r20 : ∀ vs, tw20 vs = bodyK C20 (lkS ST20) Try.f20 (sig 20) c20 (fillAs A20 0 vs) := fun vs => by kernel_rfl
theorem ok20 : ∀ xs q, opt (th20 xs) = some q → evalBody Try.prog sig (Gd G dep (dep 20)) KK 20 xs = some q := fun xs q h => body_ok Try.func20 (c := c20) rfl A20 tw20 (sums_of (C := C20) (t := ST20) ⟨sum_in (c' := .loop b20o0) (by kernel_rfl) (o20o0), trivial⟩) r20 (by rw [← tpw20]; exact opt_gOf h)
noncomputable def C88 : Ctx := ⟨Try.prog, sig, Gd G dep (dep 88), (sig 88).keep, (sig 88).ord⟩
noncomputable def c88 : Code := Try.f88.body.getD .skip
def T88o0 : TSt := ⟨[.d (.l), .d (.i .i64), .d (.i .i64), .d (.i .i64), .any, .any, .any], []⟩
def X88o0e1 : TSt := ⟨[.d (.l), .d (.i .i64), .d (.i .i64), .d (.i .i64), .d (.b), .d (.b), .any], []⟩
def X88o0e2 : TSt := ⟨[.d (.l), .d (.i .i64), .d (.i .i64), .d (.i .i64), .d (.b), .d (.b), .d (.b)], []⟩
def X88o0e3 : TSt := ⟨[.d (.l), .d (.i .i64), .d (.i .i64), .d (.i .i64), .d (.b), .any, .any], []⟩
def L88o0 (m : Nat) (vs : List Vr) (K : Cont (List DV × List (List D))) : Rs := la88o0 tu86 (vL vs 0) (vI vs 2) (fun n21 n22 b23 b24 v25 => K .ret (fillS X88o0e1 [.l (vL vs 0), .i (n21), .i ((-1 : Int)), .i (n22), .b (b23), .b (b24), .v (v25)])) (fun n26 n27 b28 b29 b30 => K .ret (fillS X88o0e2 [.l (vL vs 0), .i (n26), .i ((-1 : Int)), .i (n27), .b (b28), .b (b29), .b (b30)])) (fun n31 n32 b33 v34 v35 => K (.exit 0) (fillS X88o0e3 [.l (vL vs 0), .i (n31), .i (vI vs 2), .i (n32), .b (b33), .v (v34), .v (v35)])) m (vI vs 1) (vI vs 3) (vV vs 4) (vV vs 5) (vV vs 6)
def ST88 : List (Nat × (St → Cont (List DV × List (List D)) → Rs)) := [(0, sumT T88o0 (L88o0 KK))]
noncomputable def b88o0 : Code := match nodeAt c88 0 with | some (.loop a) => a | _ => .skip
theorem q88o0 : ∀ m vs K, L88o0 (m + 1) vs K = denK C88 (lkS ST88) b88o0 1 (fillS T88o0 vs) (loopK T88o0 (L88o0 m) K) := fun m vs K => by kernel_rfl
theorem o88o0 : SumOk C88 KK (sumT T88o0 (L88o0 KK)) (.loop b88o0) := loop_ok T88o0 L88o0 (sums_of (t := ST88) ⟨fun _ _ h => absurd h (by decide), trivial⟩) (fun _ _ => rfl) q88o0
theorem r88 : ∀ vs, tw88 vs = bodyK C88 (lkS ST88) Try.f88 (sig 88) c88 (fillAs A88 0 vs) := fun vs => by kernel_rfl
theorem ok88 : ∀ xs q, opt (th88 xs) = some q → evalBody Try.prog sig (Gd G dep (dep 88)) KK 88 xs = some q := fun xs q h => body_ok Try.func88 (c := c88) rfl A88 tw88 (sums_of (C := C88) (t := ST88) ⟨sum_in (c' := .loop b88o0) (by kernel_rfl) (o88o0), trivial⟩) r88 (by rw [← tpw88]; exact opt_gOf h)
noncomputable def C52 : Ctx := ⟨Try.prog, sig, Gd G dep (dep 52), (sig 52).keep, (sig 52).ord⟩
noncomputable def c52 : Code := Try.f52.body.getD .skip
def T52o0 : TSt := ⟨[.d (.l), .d (.i .i64), .d (.i .i64), .d (.i .i64), .any, .any, .any, .any, .any, .any, .any, .any, .any, .any], []⟩
def X52o0e1 : TSt := ⟨[.d (.l), .d (.i .i64), .d (.i .i64), .d (.i .i64), .d (.b), .d (.b), .any, .any, .any, .any, .any, .any, .any, .any], []⟩
def X52o0e2 : TSt := ⟨[.d (.l), .d (.i .i64), .d (.i .i64), .d (.i .i64), .d (.b), .d (.b), .d (.b), .any, .any, .any, .any, .any, .any, .any], []⟩
def X52o0e3 : TSt := ⟨[.d (.l), .d (.i .i64), .d (.i .i64), .d (.i .i64), .d (.b), .d (.b), .d (.b), .d (.b), .any, .any, .any, .any, .any, .any], []⟩
def X52o0e4 : TSt := ⟨[.d (.l), .d (.i .i64), .d (.i .i64), .d (.i .i64), .d (.b), .d (.b), .d (.b), .d (.b), .d (.b), .any, .any, .any, .any, .any], []⟩
def X52o0e5 : TSt := ⟨[.d (.l), .d (.i .i64), .d (.i .i64), .d (.i .i64), .d (.b), .d (.b), .d (.b), .d (.b), .d (.b), .d (.b), .any, .any, .any, .any], []⟩
def X52o0e6 : TSt := ⟨[.d (.l), .d (.i .i64), .d (.i .i64), .d (.i .i64), .d (.b), .d (.b), .d (.b), .d (.b), .d (.b), .d (.b), .d (.b), .any, .any, .any], []⟩
def X52o0e7 : TSt := ⟨[.d (.l), .d (.i .i64), .d (.i .i64), .d (.i .i64), .d (.b), .d (.b), .d (.b), .d (.b), .d (.b), .d (.b), .d (.b), .d (.b), .any, .any], []⟩
def X52o0e8 : TSt := ⟨[.d (.l), .d (.i .i64), .d (.i .i64), .d (.i .i64), .d (.b), .d (.b), .d (.b), .d (.b), .d (.b), .d (.b), .d (.b), .d (.b), .d (.b), .any], []⟩
def X52o0e9 : TSt := ⟨[.d (.l), .d (.i .i64), .d (.i .i64), .d (.i .i64), .d (.b), .d (.b), .d (.b), .d (.b), .d (.b), .d (.b), .d (.b), .d (.b), .d (.b), .d (.b)], []⟩
def X52o0e10 : TSt := ⟨[.d (.l), .d (.i .i64), .d (.i .i64), .d (.i .i64), .d (.b), .any, .any, .any, .any, .any, .any, .any, .any, .any], []⟩
def L52o0 (m : Nat) (vs : List Vr) (K : Cont (List DV × List (List D))) : Rs := la52o0 tu86 tu88 (vL vs 0) (vI vs 2) (fun n35 n36 b37 b38 v39 v40 v41 v42 v43 v44 v45 v46 => K .ret (fillS X52o0e1 [.l (vL vs 0), .i (n35), .i ((-1 : Int)), .i (n36), .b (b37), .b (b38), .v (v39), .v (v40), .v (v41), .v (v42), .v (v43), .v (v44), .v (v45), .v (v46)])) (fun n47 n48 b49 b50 b51 v52 v53 v54 v55 v56 v57 v58 => K .ret (fillS X52o0e2 [.l (vL vs 0), .i (n47), .i ((-1 : Int)), .i (n48), .b (b49), .b (b50), .b (b51), .v (v52), .v (v53), .v (v54), .v (v55), .v (v56), .v (v57), .v (v58)])) (fun n59 n60 b61 b62 b63 b64 v65 v66 v67 v68 v69 v70 => K .ret (fillS X52o0e3 [.l (vL vs 0), .i (n59), .i ((-1 : Int)), .i (n60), .b (b61), .b (b62), .b (b63), .b (b64), .v (v65), .v (v66), .v (v67), .v (v68), .v (v69), .v (v70)])) (fun n71 n72 b73 b74 b75 b76 b77 v78 v79 v80 v81 v82 => K .ret (fillS X52o0e4 [.l (vL vs 0), .i (n71), .i ((-1 : Int)), .i (n72), .b (b73), .b (b74), .b (b75), .b (b76), .b (b77), .v (v78), .v (v79), .v (v80), .v (v81), .v (v82)])) (fun n83 n84 b85 b86 b87 b88 b89 b90 v91 v92 v93 v94 => K .ret (fillS X52o0e5 [.l (vL vs 0), .i (n83), .i ((-1 : Int)), .i (n84), .b (b85), .b (b86), .b (b87), .b (b88), .b (b89), .b (b90), .v (v91), .v (v92), .v (v93), .v (v94)])) (fun n95 n96 b97 b98 b99 b100 b101 b102 b103 v104 v105 v106 => K .ret (fillS X52o0e6 [.l (vL vs 0), .i (n95), .i ((-1 : Int)), .i (n96), .b (b97), .b (b98), .b (b99), .b (b100), .b (b101), .b (b102), .b (b103), .v (v104), .v (v105), .v (v106)])) (fun n107 n108 b109 b110 b111 b112 b113 b114 b115 b116 v117 v118 => K .ret (fillS X52o0e7 [.l (vL vs 0), .i (n107), .i ((-1 : Int)), .i (n108), .b (b109), .b (b110), .b (b111), .b (b112), .b (b113), .b (b114), .b (b115), .b (b116), .v (v117), .v (v118)])) (fun n119 n120 b121 b122 b123 b124 b125 b126 b127 b128 b129 v130 => K .ret (fillS X52o0e8 [.l (vL vs 0), .i (n119), .i ((-1 : Int)), .i (n120), .b (b121), .b (b122), .b (b123), .b (b124), .b (b125), .b (b126), .b (b127), .b (b128), .b (b129), .v (v130)])) (fun n131 n132 b133 b134 b135 b136 b137 b138 b139 b140 b141 b142 => K .ret (fillS X52o0e9 [.l (vL vs 0), .i (n131), .i ((-1 : Int)), .i (n132), .b (b133), .b (b134), .b (b135), .b (b136), .b (b137), .b (b138), .b (b139), .b (b140), .b (b141), .b (b142)])) (fun n143 n144 b145 v146 v147 v148 v149 v150 v151 v152 v153 v154 => K (.exit 0) (fillS X52o0e10 [.l (vL vs 0), .i (n143), .i (vI vs 2), .i (n144), .b (b145), .v (v146), .v (v147), .v (v148), .v (v149), .v (v150), .v (v151), .v (v152), .v (v153), .v (v154)])) m (vI vs 1) (vI vs 3) (vV vs 4) (vV vs 5) (vV vs 6) (vV vs 7) (vV vs 8) (vV vs 9) (vV vs 10) (vV vs 11) (vV vs 12) (vV vs 13)
def ST52 : List (Nat × (St → Cont (List DV × List (List D)) → Rs)) := [(0, sumT T52o0 (L52o0 KK))]
noncomputable def b52o0 : Code := match nodeAt c52 0 with | some (.loop a) => a | _ => .skip
theorem q52o0 : ∀ m vs K, L52o0 (m + 1) vs K = denK C52 (lkS ST52) b52o0 1 (fillS T52o0 vs) (loopK T52o0 (L52o0 m) K) := fun m vs K => by kernel_rfl
theorem o52o0 : SumOk C52 KK (sumT T52o0 (L52o0 KK)) (.loop b52o0) := loop_ok T52o0 L52o0 (sums_of (t := ST52) ⟨fun _ _ h => absurd h (by decide), trivial⟩) (fun _ _ => rfl) q52o0
theorem r52 : ∀ vs, tw52 vs = bodyK C52 (lkS ST52) Try.f52 (sig 52) c52 (fillAs A52 0 vs) := fun vs => by kernel_rfl
theorem ok52 : ∀ xs q, opt (th52 xs) = some q → evalBody Try.prog sig (Gd G dep (dep 52)) KK 52 xs = some q := fun xs q h => body_ok Try.func52 (c := c52) rfl A52 tw52 (sums_of (C := C52) (t := ST52) ⟨sum_in (c' := .loop b52o0) (by kernel_rfl) (o52o0), trivial⟩) r52 (by rw [← tpw52]; exact opt_gOf h)
noncomputable def C49 : Ctx := ⟨Try.prog, sig, Gd G dep (dep 49), (sig 49).keep, (sig 49).ord⟩
noncomputable def c49 : Code := Try.f49.body.getD .skip
def T49o0 : TSt := ⟨[.d (.l), .d (.i .i64), .d (.i .i64), .d (.i .i64), .any, .any, .any, .any, .any, .any], []⟩
def X49o0e1 : TSt := ⟨[.d (.l), .d (.i .i64), .d (.i .i64), .d (.i .i64), .d (.b), .d (.b), .any, .any, .any, .any], []⟩
def X49o0e2 : TSt := ⟨[.d (.l), .d (.i .i64), .d (.i .i64), .d (.i .i64), .d (.b), .d (.b), .d (.b), .any, .any, .any], []⟩
def X49o0e3 : TSt := ⟨[.d (.l), .d (.i .i64), .d (.i .i64), .d (.i .i64), .d (.b), .d (.b), .d (.b), .d (.b), .any, .any], []⟩
def X49o0e4 : TSt := ⟨[.d (.l), .d (.i .i64), .d (.i .i64), .d (.i .i64), .d (.b), .d (.b), .d (.b), .d (.b), .d (.b), .any], []⟩
def X49o0e5 : TSt := ⟨[.d (.l), .d (.i .i64), .d (.i .i64), .d (.i .i64), .d (.b), .d (.b), .d (.b), .d (.b), .d (.b), .d (.b)], []⟩
def X49o0e6 : TSt := ⟨[.d (.l), .d (.i .i64), .d (.i .i64), .d (.i .i64), .d (.b), .any, .any, .any, .any, .any], []⟩
def L49o0 (m : Nat) (vs : List Vr) (K : Cont (List DV × List (List D))) : Rs := l49o0 (vL vs 0) (vI vs 2) (fun n27 n28 b29 b30 v31 v32 v33 v34 => K .ret (fillS X49o0e1 [.l (vL vs 0), .i (n27), .i ((-1 : Int)), .i (n28), .b (b29), .b (b30), .v (v31), .v (v32), .v (v33), .v (v34)])) (fun n35 n36 b37 b38 b39 v40 v41 v42 => K .ret (fillS X49o0e2 [.l (vL vs 0), .i (n35), .i ((-1 : Int)), .i (n36), .b (b37), .b (b38), .b (b39), .v (v40), .v (v41), .v (v42)])) (fun n43 n44 b45 b46 b47 b48 v49 v50 => K .ret (fillS X49o0e3 [.l (vL vs 0), .i (n43), .i ((-1 : Int)), .i (n44), .b (b45), .b (b46), .b (b47), .b (b48), .v (v49), .v (v50)])) (fun n51 n52 b53 b54 b55 b56 b57 v58 => K .ret (fillS X49o0e4 [.l (vL vs 0), .i (n51), .i ((-1 : Int)), .i (n52), .b (b53), .b (b54), .b (b55), .b (b56), .b (b57), .v (v58)])) (fun n59 n60 b61 b62 b63 b64 b65 b66 => K .ret (fillS X49o0e5 [.l (vL vs 0), .i (n59), .i ((-1 : Int)), .i (n60), .b (b61), .b (b62), .b (b63), .b (b64), .b (b65), .b (b66)])) (fun n67 n68 b69 v70 v71 v72 v73 v74 => K (.exit 0) (fillS X49o0e6 [.l (vL vs 0), .i (n67), .i (vI vs 2), .i (n68), .b (b69), .v (v70), .v (v71), .v (v72), .v (v73), .v (v74)])) m (vI vs 1) (vI vs 3) (vV vs 4) (vV vs 5) (vV vs 6) (vV vs 7) (vV vs 8) (vV vs 9)
def ST49 : List (Nat × (St → Cont (List DV × List (List D)) → Rs)) := [(0, sumT T49o0 (L49o0 KK))]
noncomputable def b49o0 : Code := match nodeAt c49 0 with | some (.loop a) => a | _ => .skip
theorem q49o0 : ∀ m vs K, L49o0 (m + 1) vs K = denK C49 (lkS ST49) b49o0 1 (fillS T49o0 vs) (loopK T49o0 (L49o0 m) K) := fun m vs K => by kernel_rfl
theorem o49o0 : SumOk C49 KK (sumT T49o0 (L49o0 KK)) (.loop b49o0) := loop_ok T49o0 L49o0 (sums_of (t := ST49) ⟨fun _ _ h => absurd h (by decide), trivial⟩) (fun _ _ => rfl) q49o0
theorem r49 : ∀ vs, tw49 vs = bodyK C49 (lkS ST49) Try.f49 (sig 49) c49 (fillAs A49 0 vs) := fun vs => by kernel_rfl
theorem ok49 : ∀ xs q, opt (th49 xs) = some q → evalBody Try.prog sig (Gd G dep (dep 49)) KK 49 xs = some q := fun xs q h => body_ok Try.func49 (c := c49) rfl A49 tw49 (sums_of (C := C49) (t := ST49) ⟨sum_in (c' := .loop b49o0) (by kernel_rfl) (o49o0), trivial⟩) r49 (by rw [← tpw49]; exact opt_gOf h)
noncomputable def C50 : Ctx := ⟨Try.prog, sig, Gd G dep (dep 50), (sig 50).keep, (sig 50).ord⟩
noncomputable def c50 : Code := Try.f50.body.getD .skip
def T50o0 : TSt := ⟨[.d (.l), .d (.i .i64), .d (.i .i64), .d (.i .i64), .any, .any, .any, .any, .any, .any], []⟩
def X50o0e1 : TSt := ⟨[.d (.l), .d (.i .i64), .d (.i .i64), .d (.i .i64), .d (.b), .d (.b), .any, .any, .any, .any], []⟩
def X50o0e2 : TSt := ⟨[.d (.l), .d (.i .i64), .d (.i .i64), .d (.i .i64), .d (.b), .d (.b), .d (.b), .any, .any, .any], []⟩
def X50o0e3 : TSt := ⟨[.d (.l), .d (.i .i64), .d (.i .i64), .d (.i .i64), .d (.b), .d (.b), .d (.b), .d (.b), .any, .any], []⟩
def X50o0e4 : TSt := ⟨[.d (.l), .d (.i .i64), .d (.i .i64), .d (.i .i64), .d (.b), .d (.b), .d (.b), .d (.b), .d (.b), .any], []⟩
def X50o0e5 : TSt := ⟨[.d (.l), .d (.i .i64), .d (.i .i64), .d (.i .i64), .d (.b), .d (.b), .d (.b), .d (.b), .d (.b), .d (.b)], []⟩
def X50o0e6 : TSt := ⟨[.d (.l), .d (.i .i64), .d (.i .i64), .d (.i .i64), .d (.b), .any, .any, .any, .any, .any], []⟩
def L50o0 (m : Nat) (vs : List Vr) (K : Cont (List DV × List (List D))) : Rs := la50o0 tu86 (vL vs 0) (vI vs 2) (fun n27 n28 b29 b30 v31 v32 v33 v34 => K .ret (fillS X50o0e1 [.l (vL vs 0), .i (n27), .i ((-1 : Int)), .i (n28), .b (b29), .b (b30), .v (v31), .v (v32), .v (v33), .v (v34)])) (fun n35 n36 b37 b38 b39 v40 v41 v42 => K .ret (fillS X50o0e2 [.l (vL vs 0), .i (n35), .i ((-1 : Int)), .i (n36), .b (b37), .b (b38), .b (b39), .v (v40), .v (v41), .v (v42)])) (fun n43 n44 b45 b46 b47 b48 v49 v50 => K .ret (fillS X50o0e3 [.l (vL vs 0), .i (n43), .i ((-1 : Int)), .i (n44), .b (b45), .b (b46), .b (b47), .b (b48), .v (v49), .v (v50)])) (fun n51 n52 b53 b54 b55 b56 b57 v58 => K .ret (fillS X50o0e4 [.l (vL vs 0), .i (n51), .i ((-1 : Int)), .i (n52), .b (b53), .b (b54), .b (b55), .b (b56), .b (b57), .v (v58)])) (fun n59 n60 b61 b62 b63 b64 b65 b66 => K .ret (fillS X50o0e5 [.l (vL vs 0), .i (n59), .i ((-1 : Int)), .i (n60), .b (b61), .b (b62), .b (b63), .b (b64), .b (b65), .b (b66)])) (fun n67 n68 b69 v70 v71 v72 v73 v74 => K (.exit 0) (fillS X50o0e6 [.l (vL vs 0), .i (n67), .i (vI vs 2), .i (n68), .b (b69), .v (v70), .v (v71), .v (v72), .v (v73), .v (v74)])) m (vI vs 1) (vI vs 3) (vV vs 4) (vV vs 5) (vV vs 6) (vV vs 7) (vV vs 8) (vV vs 9)
def ST50 : List (Nat × (St → Cont (List DV × List (List D)) → Rs)) := [(0, sumT T50o0 (L50o0 KK))]
noncomputable def b50o0 : Code := match nodeAt c50 0 with | some (.loop a) => a | _ => .skip
theorem q50o0 : ∀ m vs K, L50o0 (m + 1) vs K = denK C50 (lkS ST50) b50o0 1 (fillS T50o0 vs) (loopK T50o0 (L50o0 m) K) := fun m vs K => by kernel_rfl
theorem o50o0 : SumOk C50 KK (sumT T50o0 (L50o0 KK)) (.loop b50o0) := loop_ok T50o0 L50o0 (sums_of (t := ST50) ⟨fun _ _ h => absurd h (by decide), trivial⟩) (fun _ _ => rfl) q50o0
theorem r50 : ∀ vs, tw50 vs = bodyK C50 (lkS ST50) Try.f50 (sig 50) c50 (fillAs A50 0 vs) := fun vs => by kernel_rfl
theorem ok50 : ∀ xs q, opt (th50 xs) = some q → evalBody Try.prog sig (Gd G dep (dep 50)) KK 50 xs = some q := fun xs q h => body_ok Try.func50 (c := c50) rfl A50 tw50 (sums_of (C := C50) (t := ST50) ⟨sum_in (c' := .loop b50o0) (by kernel_rfl) (o50o0), trivial⟩) r50 (by rw [← tpw50]; exact opt_gOf h)
noncomputable def C21 : Ctx := ⟨Try.prog, sig, Gd G dep (dep 21), (sig 21).keep, (sig 21).ord⟩
noncomputable def c21 : Code := Try.f21.body.getD .skip
def T21o0 : TSt := ⟨[.d (.l), .d (.i .i64), .d (.i .i64), .d (.i .i64), .any, .any, .any, .any, .any, .any], []⟩
def X21o0e1 : TSt := ⟨[.d (.l), .d (.i .i64), .d (.i .i64), .d (.i .i64), .d (.b), .d (.b), .any, .any, .any, .any], []⟩
def X21o0e2 : TSt := ⟨[.d (.l), .d (.i .i64), .d (.i .i64), .d (.i .i64), .d (.b), .d (.b), .d (.b), .any, .any, .any], []⟩
def X21o0e3 : TSt := ⟨[.d (.l), .d (.i .i64), .d (.i .i64), .d (.i .i64), .d (.b), .d (.b), .d (.b), .d (.b), .any, .any], []⟩
def X21o0e4 : TSt := ⟨[.d (.l), .d (.i .i64), .d (.i .i64), .d (.i .i64), .d (.b), .d (.b), .d (.b), .d (.b), .d (.b), .any], []⟩
def X21o0e5 : TSt := ⟨[.d (.l), .d (.i .i64), .d (.i .i64), .d (.i .i64), .d (.b), .d (.b), .d (.b), .d (.b), .d (.b), .d (.b)], []⟩
def X21o0e6 : TSt := ⟨[.d (.l), .d (.i .i64), .d (.i .i64), .d (.i .i64), .d (.b), .any, .any, .any, .any, .any], []⟩
def L21o0 (m : Nat) (vs : List Vr) (K : Cont (List DV × List (List D))) : Rs := la21o0 tu49 tu50 tu52 (vL vs 0) (vI vs 2) (fun n27 n28 b29 b30 v31 v32 v33 v34 => K .ret (fillS X21o0e1 [.l (vL vs 0), .i (n27), .i ((-1 : Int)), .i (n28), .b (b29), .b (b30), .v (v31), .v (v32), .v (v33), .v (v34)])) (fun n35 n36 b37 b38 b39 v40 v41 v42 => K .ret (fillS X21o0e2 [.l (vL vs 0), .i (n35), .i ((-1 : Int)), .i (n36), .b (b37), .b (b38), .b (b39), .v (v40), .v (v41), .v (v42)])) (fun n43 n44 b45 b46 b47 b48 v49 v50 => K .ret (fillS X21o0e3 [.l (vL vs 0), .i (n43), .i ((-1 : Int)), .i (n44), .b (b45), .b (b46), .b (b47), .b (b48), .v (v49), .v (v50)])) (fun n51 n52 b53 b54 b55 b56 b57 v58 => K .ret (fillS X21o0e4 [.l (vL vs 0), .i (n51), .i ((-1 : Int)), .i (n52), .b (b53), .b (b54), .b (b55), .b (b56), .b (b57), .v (v58)])) (fun n59 n60 b61 b62 b63 b64 b65 b66 => K .ret (fillS X21o0e5 [.l (vL vs 0), .i (n59), .i ((-1 : Int)), .i (n60), .b (b61), .b (b62), .b (b63), .b (b64), .b (b65), .b (b66)])) (fun n67 n68 b69 v70 v71 v72 v73 v74 => K (.exit 0) (fillS X21o0e6 [.l (vL vs 0), .i (n67), .i (vI vs 2), .i (n68), .b (b69), .v (v70), .v (v71), .v (v72), .v (v73), .v (v74)])) m (vI vs 1) (vI vs 3) (vV vs 4) (vV vs 5) (vV vs 6) (vV vs 7) (vV vs 8) (vV vs 9)
def ST21 : List (Nat × (St → Cont (List DV × List (List D)) → Rs)) := [(0, sumT T21o0 (L21o0 KK))]
noncomputable def b21o0 : Code := match nodeAt c21 0 with | some (.loop a) => a | _ => .skip
theorem q21o0 : ∀ m vs K, L21o0 (m + 1) vs K = denK C21 (lkS ST21) b21o0 1 (fillS T21o0 vs) (loopK T21o0 (L21o0 m) K) := fun m vs K => by kernel_rfl
theorem o21o0 : SumOk C21 KK (sumT T21o0 (L21o0 KK)) (.loop b21o0) := loop_ok T21o0 L21o0 (sums_of (t := ST21) ⟨fun _ _ h => absurd h (by decide), trivial⟩) (fun _ _ => rfl) q21o0
theorem r21 : ∀ vs, tw21 vs = bodyK C21 (lkS ST21) Try.f21 (sig 21) c21 (fillAs A21 0 vs) := fun vs => by kernel_rfl
theorem ok21 : ∀ xs q, opt (th21 xs) = some q → evalBody Try.prog sig (Gd G dep (dep 21)) KK 21 xs = some q := fun xs q h => body_ok Try.func21 (c := c21) rfl A21 tw21 (sums_of (C := C21) (t := ST21) ⟨sum_in (c' := .loop b21o0) (by kernel_rfl) (o21o0), trivial⟩) r21 (by rw [← tpw21]; exact opt_gOf h)
noncomputable def C4 : Ctx := ⟨Try.prog, sig, Gd G dep (dep 4), (sig 4).keep, (sig 4).ord⟩
noncomputable def c4 : Code := Try.f4.body.getD .skip
def ST4 : List (Nat × (St → Cont (List DV × List (List D)) → Rs)) := []
theorem r4 : ∀ vs, tw4 vs = bodyK C4 (lkS ST4) Try.f4 (sig 4) c4 (fillAs A4 0 vs) := fun vs => by kernel_rfl
theorem ok4 : ∀ xs q, opt (th4 xs) = some q → evalBody Try.prog sig (Gd G dep (dep 4)) KK 4 xs = some q := fun xs q h => body_ok Try.func4 (c := c4) rfl A4 tw4 (sums_of (C := C4) (t := ST4) trivial) r4 (by rw [← tpw4]; exact opt_gOf h)
theorem fn_ok : ∀ f ∈ [40, 12, 17, 41, 13, 18, 143, 137, 120, 83, 42, 84, 43, 121, 85, 44, 14, 19, 86, 87, 51, 46, 47, 20, 88, 52, 49, 50, 21, 4], FnOk Try.prog sig f := fun f h => fnOk_of (List.all_eq_true.1 (show [40, 12, 17, 41, 13, 18, 143, 137, 120, 83, 42, 84, 43, 121, 85, 44, 14, 19, 86, 87, 51, 46, 47, 20, 88, 52, 49, 50, 21, 4].all (fnOkB Try.prog sig) = true by kernel_rfl) f h)
theorem all_ok : AllG (fun f xs q => FnOk Try.prog sig f ∧ evalBody Try.prog sig (Gd G dep (dep f)) KK f xs = some q) gT :=
  ⟨fun xs q h => ⟨fn_ok 40 (by simp), ok40 xs q h⟩, fun xs q h => ⟨fn_ok 12 (by simp), ok12 xs q h⟩, fun xs q h => ⟨fn_ok 17 (by simp), ok17 xs q h⟩, fun xs q h => ⟨fn_ok 41 (by simp), ok41 xs q h⟩, fun xs q h => ⟨fn_ok 13 (by simp), ok13 xs q h⟩, fun xs q h => ⟨fn_ok 18 (by simp), ok18 xs q h⟩, fun xs q h => ⟨fn_ok 143 (by simp), ok143 xs q h⟩, fun xs q h => ⟨fn_ok 137 (by simp), ok137 xs q h⟩, fun xs q h => ⟨fn_ok 120 (by simp), ok120 xs q h⟩, fun xs q h => ⟨fn_ok 83 (by simp), ok83 xs q h⟩, fun xs q h => ⟨fn_ok 42 (by simp), ok42 xs q h⟩, fun xs q h => ⟨fn_ok 84 (by simp), ok84 xs q h⟩, fun xs q h => ⟨fn_ok 43 (by simp), ok43 xs q h⟩, fun xs q h => ⟨fn_ok 121 (by simp), ok121 xs q h⟩, fun xs q h => ⟨fn_ok 85 (by simp), ok85 xs q h⟩, fun xs q h => ⟨fn_ok 44 (by simp), ok44 xs q h⟩, fun xs q h => ⟨fn_ok 14 (by simp), ok14 xs q h⟩, fun xs q h => ⟨fn_ok 19 (by simp), ok19 xs q h⟩, fun xs q h => ⟨fn_ok 86 (by simp), ok86 xs q h⟩, fun xs q h => ⟨fn_ok 87 (by simp), ok87 xs q h⟩, fun xs q h => ⟨fn_ok 51 (by simp), ok51 xs q h⟩, fun xs q h => ⟨fn_ok 46 (by simp), ok46 xs q h⟩, fun xs q h => ⟨fn_ok 47 (by simp), ok47 xs q h⟩, fun xs q h => ⟨fn_ok 20 (by simp), ok20 xs q h⟩, fun xs q h => ⟨fn_ok 88 (by simp), ok88 xs q h⟩, fun xs q h => ⟨fn_ok 52 (by simp), ok52 xs q h⟩, fun xs q h => ⟨fn_ok 49 (by simp), ok49 xs q h⟩, fun xs q h => ⟨fn_ok 50 (by simp), ok50 xs q h⟩, fun xs q h => ⟨fn_ok 21 (by simp), ok21 xs q h⟩, fun xs q h => ⟨fn_ok 4 (by simp), ok4 xs q h⟩, trivial⟩
theorem G_ok (f : Nat) : SpecOk Try.prog (sig f) (fun xs => opt (G f xs)) f := G_spec (by kernel_rfl) (allG_of all_ok) f
end
end Go.Den.L4
